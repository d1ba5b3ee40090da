import PyProof.Rows.All
import Wide.All
import OpenK.AllK
import Wide.FinOn
import HandS.ForMost
import HandS.ForExc
import HandS.Defaults
import HandS.CallSlots
import HandS.Property
import HandS.OwnEq
import HandS.IsInst
import HandS.Gcd
import HandS.Wide
import HandS.TupLe
import HandS.TupAny
import HandS.MakeKwOnly
import HandS.ClsMeth
import KE.KOpsOwn
import HandS.SlotsOwn
import HandS.Walk
import HandS.Comp
import HandS.Rev
import HandS.Zip
import KE.KStateDown
import HandS.Ends
import HandS.More
import HandS.Words
import HandS.WordsExc
import HandS.Head0
import HandS.Head1
import HandS.Head2
import HandS.Head3
import HandS.HeadEnd
import HandS.HeadHook1
import HandS.HeadHook2
import HandS.Codes
import KE.DatumOrd
import HandS.EndBits
import HandS.ExcInit
import HandS.ExcField
import HandS.TryMany
import HandS.CallLocal
import HandS.Text
import KE.KMathGC
import PySem.Challenge.RW_certsums_k98_places_of_errors
set_option Elab.async false
set_option linter.all false
set_option maxRecDepth 100000
set_option autoImplicit false
namespace Ce
open PySem PySem.Spec PyProof.Rows L2 Ce

/-- a deep value: what a frozen object says -/
inductive D where
  | non | bl (b : Bool) | int (i : Int) | str (s : Str) | raw (v : V)
  | lst (xs : List D) | tup (xs : List D) | ins (c : Nat) (fs : List D)

/-- what a slot holds: a frozen value, or an object that this slot alone owns -/
inductive O where
  | im (d : D) | ol (xs : List D) | oi (c : Nat) (fs : List D)
  | fn (n : Nat) | exn (c : Nat) (fs : List D)

/-- the classes by number: where each stands, its fields in the order in which they are stored -/
structure Ct where
  cl : Nat → Addr
  fl : Nat → List Str
  xa : Addr := 0
  xd : Addr := 0

/-- values of other kinds -/
def raws : V → Bool
  | .byt _ => true
  | .flt _ => true
  | .ty _ => true
  | _ => false
mutual
inductive Is (K : PySem.W.Frag) (T : Ct) (F : Hp) : V → D → Prop
  | non : Is K T F .non .non
  | bl (b : Bool) : Is K T F (.bl b) (.bl b)
  | int (i : Int) : Is K T F (.int i) (.int i)
  | str (s : Str) : Is K T F (.str s) (.str s)
  | raw (v : V) (h : raws v = true) : Is K T F v (.raw v)
  | lst {a : Addr} {vs : List V} {ds : List D} (h : SqL K F a vs) (l : IsL K T F vs ds) : Is K T F (.ref a) (.lst ds)
  | tup {a : Addr} {vs : List V} {ds : List D} (h : SqT K F a vs) (l : IsL K T F vs ds) : Is K T F (.ref a) (.tup ds)
  | ins {a dx : Addr} {c : Nat} {fs : List (Str × V)} {ds : List D} (h : F a = some (.ins (T.cl c) dx fs)) (n : fs.map (·.1) = T.fl c) (l : IsL K T F (fs.map (·.2)) ds) : Is K T F (.ref a) (.ins c ds)
inductive IsL (K : PySem.W.Frag) (T : Ct) (F : Hp) : List V → List D → Prop
  | nil : IsL K T F [] []
  | cons {v : V} {d : D} {vs : List V} {ds : List D} (h : Is K T F v d) (l : IsL K T F vs ds) : IsL K T F (v :: vs) (d :: ds)
end

section
variable {K : PySem.W.Frag} {T : Ct} {F F' H H' B : Hp}

theorem same_seq {K : PySem.W.Frag} {H H' : Hp} {a : Addr} {xs : List V} (e : Same H H') (h : SqT K H a xs) : SqT K H' a xs := by
  rcases h with (h | ⟨o, h⟩) | h
  · exact .inl (.inl (e _ _ h))
  · exact .inl (.inr ⟨o, e _ _ h⟩)
  · exact .inr h

mutual
theorem Is.mono (g : Same F F') : ∀ {v : V} {d : D}, Is K T F v d → Is K T F' v d
  | _, _, .non => .non
  | _, _, .bl b => .bl b
  | _, _, .int i => .int i
  | _, _, .str s => .str s
  | _, _, .raw v h => .raw v h
  | _, _, .lst h l => .lst (g.seq h) (IsL.mono g l)
  | _, _, .tup h l => .tup (same_seq g h) (IsL.mono g l)
  | _, _, .ins h n l => .ins (g _ _ h) n (IsL.mono g l)
theorem IsL.mono (g : Same F F') : ∀ {vs : List V} {ds : List D}, IsL K T F vs ds → IsL K T F' vs ds
  | _, _, .nil => .nil
  | _, _, .cons h l => .cons (Is.mono g h) (IsL.mono g l)
end

theorem IsL.length : ∀ {vs : List V} {ds : List D}, IsL K T F vs ds → vs.length = ds.length
  | _, _, .nil => rfl
  | _, _, .cons _ l => congrArg (· + 1) (IsL.length l)
theorem IsL.get : ∀ {vs : List V} {ds : List D} {i : Nat} {d : D}, IsL K T F vs ds → ds[i]? = some d → ∃ v, vs[i]? = some v ∧ Is K T F v d
  | _, _, _, _, .nil, e => by simp at e
  | _, _, 0, _, .cons h l, e => by simp at e; subst e; exact ⟨_, rfl, h⟩
  | _, _, i + 1, d, .cons h l, e => by
    obtain ⟨v, h1, h2⟩ := IsL.get (i := i) (d := d) l (by simpa using e)
    exact ⟨v, by simpa using h1, h2⟩
theorem IsL.getV : ∀ {vs : List V} {ds : List D} {i : Nat} {v : V}, IsL K T F vs ds → vs[i]? = some v → ∃ d, ds[i]? = some d ∧ Is K T F v d
  | _, _, _, _, .nil, e => by simp at e
  | _, _, 0, _, .cons h l, e => by simp at e; subst e; exact ⟨_, rfl, h⟩
  | _, _, i + 1, d, .cons h l, e => by
    obtain ⟨v, h1, h2⟩ := IsL.getV (i := i) (v := d) l (by simpa using e)
    exact ⟨v, by simpa using h1, h2⟩
theorem IsL.append : ∀ {vs ws : List V} {ds es : List D}, IsL K T F vs ds → IsL K T F ws es → IsL K T F (vs ++ ws) (ds ++ es)
  | _, _, _, _, .nil, s => s
  | _, _, _, _, .cons r t, s => .cons r (IsL.append t s)
theorem IsL.take : ∀ {vs : List V} {ds : List D} (n : Nat), IsL K T F vs ds → IsL K T F (vs.take n) (ds.take n)
  | _, _, 0, _ => by simpa using IsL.nil
  | _, _, _ + 1, .nil => by simpa using IsL.nil
  | _, _, n + 1, .cons r t => by simpa using IsL.cons r (IsL.take n t)
theorem IsL.drop : ∀ {vs : List V} {ds : List D} (n : Nat), IsL K T F vs ds → IsL K T F (vs.drop n) (ds.drop n)
  | _, _, 0, r => r
  | _, _, _ + 1, .nil => by simpa using IsL.nil
  | _, _, n + 1, .cons _ t => by simpa using IsL.drop n t
theorem IsL.set {x : V} {d : D} (r : Is K T F x d) : ∀ {vs : List V} {ds : List D} (i : Nat), IsL K T F vs ds → IsL K T F (vs.set i x) (ds.set i d)
  | _, _, _, .nil => .nil
  | _, _, 0, .cons _ t => .cons r t
  | _, _, i + 1, .cons q t => .cons q (IsL.set r i t)
theorem IsL.reverse : ∀ {vs : List V} {ds : List D}, IsL K T F vs ds → IsL K T F vs.reverse ds.reverse
  | _, _, .nil => .nil
  | _, _, .cons r t => by simpa using (IsL.reverse t).append (.cons r .nil)
theorem IsL.rep {vs : List V} {ds : List D} (h : IsL K T F vs ds) : ∀ n : Nat, IsL K T F (List.replicate n vs).flatten (List.replicate n ds).flatten
  | 0 => by simpa using IsL.nil
  | n + 1 => by simpa [List.replicate_succ] using h.append (IsL.rep h n)
theorem IsL.dropLast {vs : List V} {ds : List D} (h : IsL K T F vs ds) : IsL K T F vs.dropLast ds.dropLast := by
  rw [List.dropLast_eq_take, List.dropLast_eq_take, h.length]
  exact h.take _

/-- an owned object, the addresses that it owns -/
inductive Own (K : PySem.W.Frag) (T : Ct) (F H : Hp) : V → O → List Addr → Prop
  | im {v : V} {d : D} (h : Is K T F v d) : Own K T F H v (.im d) []
  | ol {a : Addr} {vs : List V} {ds : List D} (h : H a = some (.lst vs)) (l : IsL K T F vs ds) : Own K T F H (.ref a) (.ol ds) [a]
  | oi {a dx : Addr} {c : Nat} {fs : List (Str × V)} {ds : List D} (h : H a = some (.ins (T.cl c) dx fs)) (n : fs.map (·.1) = (T.fl c).take ds.length) (l : IsL K T F (fs.map (·.2)) ds) : Own K T F H (.ref a) (.oi c ds) [a]
  | fn {n : Nat} : Own K T F H (.ref (T.cl n)) (.fn n) []
  | exn {c : Nat} {vs : List V} {ds : List D} (h : F T.xd = some (.xd ((T.fl c).zip vs))) (n : vs.length = (T.fl c).length) (l : IsL K T F vs ds) : Own K T F H (.ref T.xa) (.exn c ds) []

theorem Own.mono {v : V} {o : O} {fp : List Addr} (g : Same F F') (k : ∀ a ∈ fp, ∀ u, H a = some u → H' a = some u) (h : Own K T F H v o fp) : Own K T F' H' v o fp := by
  cases h with
  | im h => exact .im (h.mono g)
  | ol h l => exact .ol (k _ (by simp) _ h) (l.mono g)
  | oi h n l => exact .oi (k _ (by simp) _ h) n (l.mono g)
  | fn => exact .fn
  | exn h n l => exact .exn (g _ _ h) n (l.mono g)
theorem Own.there {v : V} {o : O} {fp : List Addr} (h : Own K T F H v o fp) : ∀ a ∈ fp, ∃ u, H a = some u := by
  cases h with
  | im h => intro a ha; cases ha
  | ol h l => intro a ha; simp at ha; subst ha; exact ⟨_, h⟩
  | oi h n l => intro a ha; simp at ha; subst ha; exact ⟨_, h⟩
  | fn => intro a ha; cases ha
  | exn h n l => intro a ha; cases ha
end

section
variable {K : PySem.W.Frag} {T : Ct} {F H : Hp}
theorem Own.imI {v : V} {d : D} {fp : List Addr} (h : Own K T F H v (.im d) fp) : Is K T F v d := by
  cases h with
  | im h => exact h
theorem Own.olI {v : V} {ds : List D} {fp : List Addr} (h : Own K T F H v (.ol ds) fp) : ∃ a vs, v = .ref a ∧ fp = [a] ∧ H a = some (.lst vs) ∧ IsL K T F vs ds := by
  cases h with
  | ol h l => exact ⟨_, _, rfl, rfl, h, l⟩
theorem Own.oiI {v : V} {c : Nat} {ds : List D} {fp : List Addr} (h : Own K T F H v (.oi c ds) fp) : ∃ a dx fs, v = .ref a ∧ fp = [a] ∧ H a = some (.ins (T.cl c) dx fs) ∧ fs.map (·.1) = (T.fl c).take ds.length ∧ IsL K T F (fs.map (·.2)) ds := by
  cases h with
  | oi h n l => exact ⟨_, _, _, rfl, rfl, h, n, l⟩
theorem Own.fnI {v : V} {n : Nat} {fp : List Addr} (h : Own K T F H v (.fn n) fp) : v = .ref (T.cl n) ∧ fp = [] := by
  cases h with
  | fn => exact ⟨rfl, rfl⟩
theorem Own.exnI {v : V} {c : Nat} {ds : List D} {fp : List Addr} (h : Own K T F H v (.exn c ds) fp) : ∃ vs, v = .ref T.xa ∧ fp = [] ∧ F T.xd = some (.xd ((T.fl c).zip vs)) ∧ vs.length = (T.fl c).length ∧ IsL K T F vs ds := by
  cases h with
  | exn h n l => exact ⟨_, rfl, rfl, h, n, l⟩
theorem Own.fp_eq {a : Addr} {o : O} {fp : List Addr} (h : Own K T F H (.ref a) o [a]) (h' : Own K T F H (.ref a) o fp) : fp = [a] := by
  cases o with
  | im d => cases h
  | ol ds => obtain ⟨b, _, e, f, _⟩ := h'.olI; cases e; exact f
  | oi c ds => obtain ⟨b, _, _, e, f, _⟩ := h'.oiI; cases e; exact f
  | fn n => cases h
  | exn c ds => cases h
def fset (φ : Nat → List Addr) (i : Nat) (fp : List Addr) : Nat → List Addr := fun j => if j = i then fp else φ j
theorem fset_same {φ : Nat → List Addr} {i : Nat} {fp : List Addr} : fset φ i fp i = fp := if_pos rfl
theorem fset_ne {φ : Nat → List Addr} {i j : Nat} {fp : List Addr} (h : j ≠ i) : fset φ i fp j = φ j := if_neg h
end

/-- the slots' deep values -/
abbrev En := List (Option O)
/-- an exception of the program: its class, its fields -/
structure Xn where
  c : Nat
  as : List D
inductive Out (α : Type) where
  | ok (a : α) (ρ : En)
  | ex (x : Xn) (ρ : En)
  | er
def Out.bind {α β : Type} (r : Out α) (k : α → En → Out β) : Out β := match r with
  | .ok a ρ => k a ρ
  | .ex x ρ => .ex x ρ
  | .er => .er

/-- the state: B is kept, F is frozen, the slots' values -/
structure Wd (K : PySem.W.Frag) (T : Ct) (B F H : Hp) (σ : L2.St) (ρ : En) : Prop where
  b : Same B H
  f : Same F H
  l : σ.length = ρ.length
  o : ∃ φ : Nat → List Addr, (∀ i o, ρ[i]? = some (some o) → ∃ v, σ[i]? = some (some v) ∧ Own K T F H v o (φ i)) ∧ (∀ i j a, a ∈ φ i → a ∈ φ j → i = j) ∧ ∀ i a, a ∈ φ i → (∃ o, ρ[i]? = some (some o)) ∧ F a = none ∧ B a = none
/-- what is frozen has grown, by new things -/
structure Gw (B F F' : Hp) : Prop where
  s : Same F F'
  n : ∀ a o, F' a = some o → F a = some o ∨ B a = none

section
variable {K : PySem.W.Frag} {T : Ct} {B B' F F' F2 H H' : Hp} {σ σ' : L2.St} {ρ ρ' : En} {v : V} {d : D} {a : Addr} {u : HO} {i : Nat} {o : O}
theorem Gw.refl : Gw B F F := ⟨Same.refl F, fun _ _ h => .inl h⟩
theorem Gw.trans (g : Gw B F F') (h : Gw B F' F2) : Gw B F F2 := ⟨g.s.trans h.s, fun a o e => (h.n a o e).elim (g.n a o) .inr⟩
theorem Gw.less (g : Gw B' F F') (h : Same B B') : Gw B F F' := ⟨g.s, fun a o e => (g.n a o e).imp id fun z => h.free z⟩
theorem Wd.less (w : Wd K T B' F H σ ρ) (h : Same B B') : Wd K T B F H σ ρ := by
  obtain ⟨φ, h1, h2, h3⟩ := w.o
  exact ⟨h.trans w.b, w.f, w.l, φ, h1, h2, fun i a m => ⟨(h3 i a m).1, (h3 i a m).2.1, h.free (h3 i a m).2.2⟩⟩
theorem Wd.nofree (w : Wd K T B F H σ ρ) (h : H a = none) : F a = none ∧ B a = none := ⟨w.f.free h, w.b.free h⟩
/-- a slot's frozen value -/
theorem Wd.get (w : Wd K T B F H σ ρ) (h : ρ[i]? = some (some (.im d))) : ∃ v, σ[i]? = some (some v) ∧ Is K T F v d := by
  obtain ⟨φ, h1, _, _⟩ := w.o
  obtain ⟨v, e, q⟩ := h1 i _ h
  exact ⟨v, e, q.imI⟩
theorem Wd.own (w : Wd K T B F H σ ρ) (h : ρ[i]? = some (some o)) : ∃ v fp, σ[i]? = some (some v) ∧ Own K T F H v o fp ∧ ∀ a ∈ fp, F a = none ∧ B a = none := by
  obtain ⟨φ, h1, _, h3⟩ := w.o
  obtain ⟨v, e, q⟩ := h1 i _ h
  exact ⟨v, _, e, q, fun a m => (h3 i a m).2⟩
theorem same_upd (h : H a = none) : Same H (upd H a u) := fun b o e => by rw [upd_ne (ne_of_none e h)]; exact e
theorem same_upd2 (h : Same F H) : Same (upd F a u) (upd H a u) := fun b o e => by
  by_cases z : b = a
  · subst z; rw [upd_same] at e ⊢; exact e
  · rw [upd_ne z] at e ⊢; exact h _ _ e
/-- the state behind any growth of what is frozen and of the heap -/
theorem Wd.grow (w : Wd K T B F H σ ρ) (g : Gw B F F') (b : Same B H') (f : Same F' H') (k : ∀ a u, H a = some u → F a = none → B a = none → H' a = some u) (n : ∀ a o, F' a = some o → F a = some o ∨ H a = none) : Wd K T B F' H' σ ρ := by
  refine ⟨b, f, w.l, ?_⟩
  obtain ⟨φ, h1, h2, h3⟩ := w.o
  refine ⟨φ, fun i o e => ?_, h2, fun i a m => ?_⟩
  · obtain ⟨v, e1, q⟩ := h1 i o e
    exact ⟨v, e1, q.mono g.s fun a m u hu => k a u hu (h3 i a m).2.1 (h3 i a m).2.2⟩
  · obtain ⟨⟨o, e⟩, hf, hb⟩ := h3 i a m
    refine ⟨⟨o, e⟩, ?_, hb⟩
    obtain ⟨v, _, q⟩ := h1 i o e
    obtain ⟨u, hu⟩ := q.there a m
    cases z : F' a with
    | none => rfl
    | some y =>
      rcases n a y z with z | z
      · rw [hf] at z; cases z
      · rw [hu] at z; cases z
/-- a new object that is frozen -/
theorem Wd.new (w : Wd K T B F H σ ρ) (h : H a = none) : Gw B F (upd F a u) ∧ Wd K T B (upd F a u) (upd H a u) σ ρ := by
  obtain ⟨hf, hb⟩ := w.nofree h
  have g : Gw B F (upd F a u) := ⟨same_upd hf, fun b o e => by
    by_cases z : b = a
    · subst z; exact .inr hb
    · rw [upd_ne z] at e; exact .inl e⟩
  refine ⟨g, w.grow g (w.b.trans (same_upd h)) (same_upd2 w.f) (fun b u e _ _ => same_upd h _ _ e) fun b o e => ?_⟩
  by_cases z : b = a
  · subst z; exact .inr h
  · rw [upd_ne z] at e; exact .inl e
/-- a new object that is not frozen, nor anyone's -/
theorem Wd.loose (w : Wd K T B F H σ ρ) (h : H a = none) : Wd K T B F (upd H a u) σ ρ :=
  w.grow Gw.refl (w.b.trans (same_upd h)) (w.f.trans (same_upd h)) (fun b u e _ _ => same_upd h _ _ e) fun b o e => .inl e
/-- a slot is given an owned object of new addresses -/
theorem Wd.put (w : Wd K T B F H σ ρ) {fp : List Addr} (q : Own K T F H v o fp) (hi : i < σ.length) (n : ∀ a ∈ fp, F a = none ∧ B a = none) (m : ∀ j a, a ∈ fp → j ≠ i → ∀ o w fq, ρ[j]? = some (some o) → σ[j]? = some (some w) → Own K T F H w o fq → a ∉ fq) :
    Wd K T B F H (σ.set i (some v)) (ρ.set i (some o)) := by
  obtain ⟨φ, h1, h2, h3⟩ := w.o
  refine ⟨w.b, w.f, by simpa using w.l, ?_⟩
  by_cases hr : i < ρ.length
  · refine ⟨fset φ i fp, fun j o' e => ?_, fun j k a => ?_, fun j a => ?_⟩
    · by_cases z : j = i
      · subst z
        rw [List.getElem?_set_self hr] at e
        cases e
        exact ⟨v, List.getElem?_set_self hi, by rw [fset_same]; exact q⟩
      · rw [List.getElem?_set_ne (Ne.symm z)] at e
        obtain ⟨x, e1, q1⟩ := h1 j o' e
        exact ⟨x, by rw [List.getElem?_set_ne (Ne.symm z)]; exact e1, by rw [fset_ne z]; exact q1⟩
    · by_cases z : j = i
      · subst z
        rw [fset_same]
        by_cases y : k = j
        · intro _ _; exact y.symm
        · rw [fset_ne y]
          intro m1 m2
          obtain ⟨⟨o', e⟩, _⟩ := h3 k a m2
          obtain ⟨x, e1, q1⟩ := h1 k o' e
          exact absurd m2 (m k a m1 y o' x _ e e1 q1)
      · rw [fset_ne z]
        by_cases y : k = i
        · subst y
          rw [fset_same]
          intro m1 m2
          obtain ⟨⟨o', e⟩, _⟩ := h3 j a m1
          obtain ⟨x, e1, q1⟩ := h1 j o' e
          exact absurd m1 (m j a m2 z o' x _ e e1 q1)
        · rw [fset_ne y]; exact h2 j k a
    · by_cases z : j = i
      · subst z
        rw [fset_same]
        intro m1
        exact ⟨⟨o, List.getElem?_set_self hr⟩, n a m1⟩
      · rw [fset_ne z]
        intro m1
        obtain ⟨⟨o', e⟩, z2⟩ := h3 j a m1
        exact ⟨⟨o', by rw [List.getElem?_set_ne (Ne.symm z)]; exact e⟩, z2⟩
  · rw [List.set_eq_of_length_le (by omega)]
    refine ⟨φ, fun j o' e => ?_, h2, h3⟩
    have hj : j < ρ.length := (List.getElem?_eq_some_iff.mp e).1
    obtain ⟨x, e1, q1⟩ := h1 j o' e
    exact ⟨x, by rw [List.getElem?_set_ne (by omega)]; exact e1, q1⟩
/-- .. a frozen value -/
theorem Wd.putIm (w : Wd K T B F H σ ρ) (q : Is K T F v d) (hi : i < σ.length) : Wd K T B F H (σ.set i (some v)) (ρ.set i (some (.im d))) :=
  w.put (.im q) hi (fun a m => by cases m) fun j a m => by cases m
/-- a slot's new content, at the address that it owns -/
theorem Wd.turn (w : Wd K T B F H σ ρ) {a : Addr} {o o' : O} {u : HO} (e : ρ[i]? = some (some o)) (ev : σ[i]? = some (some (.ref a))) (q : Own K T F H (.ref a) o [a]) (q' : Own K T F (upd H a u) (.ref a) o' [a]) :
    Wd K T B F (upd H a u) σ (ρ.set i (some o')) := by
  obtain ⟨φ, h1, h2, h3⟩ := w.o
  have hr : i < ρ.length := (List.getElem?_eq_some_iff.mp e).1
  have ea : φ i = [a] := by
    obtain ⟨x, e1, q1⟩ := h1 i o e
    rw [ev] at e1
    cases e1
    exact q.fp_eq q1
  have ai : a ∈ φ i := by rw [ea]; simp
  obtain ⟨_, fa, ba⟩ := h3 i a ai
  have k : ∀ b u', b ≠ a → H b = some u' → (upd H a u) b = some u' := fun b u' n e => by rw [upd_ne n]; exact e
  refine ⟨fun b u' z => k b u' (ne_of_none z ba) (w.b _ _ z), fun b u' z => k b u' (ne_of_none z fa) (w.f _ _ z), by simpa using w.l, φ, fun j o2 e2 => ?_, h2, fun j b m => ?_⟩
  · by_cases z : j = i
    · subst z
      rw [List.getElem?_set_self hr] at e2
      cases e2
      exact ⟨_, ev, by rw [ea]; exact q'⟩
    · rw [List.getElem?_set_ne (Ne.symm z)] at e2
      obtain ⟨x, e1, q1⟩ := h1 j o2 e2
      refine ⟨x, e1, q1.mono (Same.refl F) fun b m u' hu => k b u' ?_ hu⟩
      rintro rfl
      exact z (h2 j i b m ai)
  · obtain ⟨⟨o2, e2⟩, z⟩ := h3 j b m
    refine ⟨?_, z⟩
    by_cases y : j = i
    · subst y; exact ⟨o', List.getElem?_set_self hr⟩
    · exact ⟨o2, by rw [List.getElem?_set_ne (Ne.symm y)]; exact e2⟩
/-- a slot forgotten -/
theorem Wd.drop (w : Wd K T B F H σ ρ) (i : Nat) (x : Option V) : Wd K T B F H (σ.set i x) (ρ.set i none) := by
  obtain ⟨φ, h1, h2, h3⟩ := w.o
  have ne : ∀ j o, (ρ.set i none)[j]? = some (some o) → j ≠ i ∧ ρ[j]? = some (some o) := fun j o e => by
    by_cases z : i = j
    · subst z
      by_cases hl : i < ρ.length
      · rw [List.getElem?_set_self hl] at e; cases e
      · rw [List.getElem?_eq_none (by simpa using hl)] at e; cases e
    · rw [List.getElem?_set_ne z] at e
      exact ⟨Ne.symm z, e⟩
  refine ⟨w.b, w.f, by simpa using w.l, fset φ i [], fun j o e => ?_, fun j k a => ?_, fun j a => ?_⟩
  · obtain ⟨z, e⟩ := ne j o e
    obtain ⟨v, e1, q⟩ := h1 j o e
    exact ⟨v, by rw [List.getElem?_set_ne (Ne.symm z)]; exact e1, by rw [fset_ne z]; exact q⟩
  · by_cases z : j = i
    · subst z; rw [fset_same]; intro m; cases m
    · rw [fset_ne z]
      by_cases y : k = i
      · subst y; rw [fset_same]; intro _ m; cases m
      · rw [fset_ne y]; exact h2 j k a
  · by_cases z : j = i
    · subst z; rw [fset_same]; intro m; cases m
    · rw [fset_ne z]
      intro m
      obtain ⟨⟨o, e⟩, y⟩ := h3 j a m
      exact ⟨⟨o, by rw [List.getElem?_set_ne (Ne.symm z)]; exact e⟩, y⟩
end
end Ce
namespace Ce
open PySem PySem.Spec PyProof.Rows L2 Ce

/-- how an exception lies -/
def ExIs (K : PySem.W.Frag) (T : Ct) (F H : Hp) (c : Value) (dd : Option Addr) (x : Xn) : Prop :=
  c = .ref (T.cl x.c) ∧ ((dd = none ∧ x.as = []) ∨ ∃ d vs, dd = some d ∧ H d = some (.xd ((T.fl x.c).zip vs)) ∧ vs.length = (T.fl x.c).length ∧ IsL K T F vs x.as)

/-- what is wanted of an outcome: ok says it of a value, the exceptions go to W -/
def PostX {α : Type} (K : PySem.W.Frag) (T : Ct) (W : WX) (B F : Hp) (σ : L2.St) (good : α → En → Prop) (r : Out α) : Prop := match r with
  | .ok a ρ => good a ρ
  | .ex x ρ => ∀ F' H' c dd, Gw B F F' → Wd K T B F' H' σ ρ → ExIs K T F' H' c dd x → W c dd σ H'
  | .er => False
/-- a value comes, of which R holds -/
def good {α β : Type} (K : PySem.W.Frag) (T : Ct) (B F : Hp) (σ : L2.St) (R : Hp → β → α → Prop) (Q : β → Hp → Prop) (a : α) (ρ : En) : Prop :=
  ∀ F' H' b, Gw B F F' → Wd K T B F' H' σ ρ → R F' b a → Q b H'
/-- a new list comes, nobody's -/
def goodN (K : PySem.W.Frag) (T : Ct) (B F : Hp) (σ : L2.St) (Q : VK) (ds : List D) (ρ : En) : Prop :=
  ∀ F' H' a vs, Gw B F F' → B a = none → F' a = none → Wd K T (upd B a (.lst vs)) F' H' σ ρ → IsL K T F' vs ds → Q (.ref a) H'
abbrev Post {α β : Type} (K : PySem.W.Frag) (T : Ct) (W : WX) (B F : Hp) (σ : L2.St) (R : Hp → β → α → Prop) (r : Out α) (Q : β → Hp → Prop) : Prop := PostX K T W B F σ (good K T B F σ R Q) r
abbrev PostN (K : PySem.W.Frag) (T : Ct) (W : WX) (B F : Hp) (σ : L2.St) (r : Out (List D)) (Q : VK) : Prop := PostX K T W B F σ (goodN K T B F σ Q) r
def RB : Hp → Bool → Bool → Prop := fun _ b c => b = c

section
variable {K : PySem.W.Frag} {T : Ct} {W : WX} {B B' F F' H H' : Hp} {σ : L2.St} {ρ : En} {α β γ : Type} {R : Hp → β → α → Prop} {Q : β → Hp → Prop}
theorem PostX.bind {r : Out α} {k : α → En → Out γ} {g : γ → En → Prop} (h : PostX K T W B F σ g (r.bind k)) : PostX K T W B F σ (fun a ρ => PostX K T W B F σ g (k a ρ)) r := by
  cases r <;> exact h
theorem PostX.imp {r : Out α} {g g' : α → En → Prop} (h : PostX K T W B F σ g r) (hi : ∀ a ρ, r = .ok a ρ → g a ρ → g' a ρ) : PostX K T W B F σ g' r := by
  cases r with
  | ok a ρ => exact hi a ρ rfl h
  | ex x ρ => exact h
  | er => exact h
theorem PostX.gw {r : Out α} {g g' : α → En → Prop} (h : PostX K T W B F σ g r) (w : Gw B F F') (hi : ∀ a ρ, g a ρ → g' a ρ) : PostX K T W B F' σ g' r := by
  cases r with
  | ok a ρ => exact hi a ρ h
  | ex x ρ => exact fun F2 H2 c dd w2 => h F2 H2 c dd (w.trans w2)
  | er => exact h
theorem good.gw {a : α} {ρ : En} (h : good K T B F σ R Q a ρ) (w : Gw B F F') : good K T B F' σ R Q a ρ := fun F2 H2 b w2 => h F2 H2 b (w.trans w2)
theorem goodN.gw {Q : VK} {ds : List D} {ρ : En} (h : goodN K T B F σ Q ds ρ) (w : Gw B F F') : goodN K T B F' σ Q ds ρ := fun F2 H2 a vs w2 => h F2 H2 a vs (w.trans w2)
theorem Post.gw {r : Out α} (h : Post K T W B F σ R r Q) (w : Gw B F F') : Post K T W B F' σ R r Q := PostX.gw h w fun _ _ h => h.gw w
theorem PostN.gw {Q : VK} {r : Out (List D)} (h : PostN K T W B F σ r Q) (w : Gw B F F') : PostN K T W B F' σ r Q := PostX.gw h w fun _ _ h => h.gw w
/-- the step: one part, then what follows of its value -/
theorem Post.step {δ : Type} {R' : Hp → δ → γ → Prop} {Q' : δ → Hp → Prop} {r : Out α} {k : α → En → Out γ} (h : Post K T W B F σ R' (r.bind k) Q')
    (hi : ∀ a ρ F' H' b, Gw B F F' → Wd K T B F' H' σ ρ → R F' b a → Post K T W B F' σ R' (k a ρ) Q' → Q b H') : Post K T W B F σ R r Q :=
  (PostX.bind h).imp fun a ρ _ h F' H' b w s i => hi a ρ F' H' b w s i (Post.gw h w)
theorem PostN.step {Q' : VK} {r : Out α} {k : α → En → Out (List D)} (h : PostN K T W B F σ (r.bind k) Q')
    (hi : ∀ a ρ F' H' b, Gw B F F' → Wd K T B F' H' σ ρ → R F' b a → PostN K T W B F' σ (k a ρ) Q' → Q b H') : Post K T W B F σ R r Q :=
  (PostX.bind h).imp fun a ρ _ h F' H' b w s i => hi a ρ F' H' b w s i (PostN.gw h w)
/-- a new object, nobody's -/
theorem Wd.fresh {a : Addr} {u : HO} (w : Wd K T B F H σ ρ) (h : H a = none) : Wd K T (upd B a u) F (upd H a u) σ ρ := by
  obtain ⟨φ, h1, h2, h3⟩ := w.o
  have g := same_upd (u := u) h
  refine ⟨same_upd2 w.b, w.f.trans g, w.l, φ, fun i o e => ?_, h2, fun i b m => ?_⟩
  · obtain ⟨v, e1, q⟩ := h1 i o e
    exact ⟨v, e1, q.mono (Same.refl F) fun _ _ _ hu => g _ _ hu⟩
  · obtain ⟨⟨o, e⟩, hf, hb⟩ := h3 i b m
    obtain ⟨v, _, q⟩ := h1 i o e
    obtain ⟨y, hy⟩ := q.there b m
    exact ⟨⟨o, e⟩, hf, by rw [upd_ne (ne_of_none hy h)]; exact hb⟩
/-- a new list is frozen -/
theorem Wd.ice {a : Addr} {u : HO} (hb : B a = none) (w : Wd K T (upd B a u) F H σ ρ) : Gw B F (upd F a u) ∧ Wd K T B (upd F a u) H σ ρ := by
  have sb : Same B (upd B a u) := same_upd hb
  have ha : H a = some u := w.b _ _ upd_same
  have g : Gw B F (upd F a u) := ⟨fun b o e => by
    by_cases z : b = a
    · subst z; rw [upd_same]; rw [w.f _ _ e] at ha; exact ha.symm
    · rw [upd_ne z]; exact e, fun b o e => by
    by_cases z : b = a
    · subst z; exact .inr hb
    · rw [upd_ne z] at e; exact .inl e⟩
  refine ⟨g, sb.trans w.b, fun b o e => ?_, w.l, ?_⟩
  · by_cases z : b = a
    · subst z; rw [upd_same] at e; cases e; exact ha
    · rw [upd_ne z] at e; exact w.f _ _ e
  · obtain ⟨φ, h1, h2, h3⟩ := w.o
    refine ⟨φ, fun i o e => ?_, h2, fun i b m => ?_⟩
    · obtain ⟨v, e1, q⟩ := h1 i o e
      exact ⟨v, e1, q.mono g.s fun _ _ _ h => h⟩
    · obtain ⟨e, hf, hb'⟩ := h3 i b m
      have z : b ≠ a := fun z => by subst z; rw [upd_same] at hb'; cases hb'
      exact ⟨e, by rw [upd_ne z]; exact hf, sb.free hb'⟩
/-- .. or given to a slot -/
theorem Wd.give {a : Addr} {vs : List V} {ds : List D} {i : Nat} (hb : B a = none) (hf : F a = none) (w : Wd K T (upd B a (.lst vs)) F H σ ρ) (l : IsL K T F vs ds) (hi : i < σ.length) :
    Wd K T B F H (σ.set i (some (.ref a))) (ρ.set i (some (.ol ds))) := by
  have ha : H a = some (.lst vs) := w.b _ _ upd_same
  obtain ⟨φ, h1, h2, h3⟩ := id w.o
  refine (w.less (same_upd hb)).put (.ol ha l) hi (fun b m => ?_) fun j b m _ o x fq e ex q mq => ?_
  · simp at m; subst m; exact ⟨hf, hb⟩
  · simp at m
    subst m
    obtain ⟨x', ex', q'⟩ := h1 j o e
    rw [ex] at ex'
    cases ex'
    have ef : fq = φ j := by
      cases q with
      | im _ => cases mq
      | ol h l => simp at mq; subst mq; exact (Own.fp_eq (.ol h l) q').symm
      | oi h n l => simp at mq; subst mq; exact (Own.fp_eq (.oi h n l) q').symm
      | fn => cases mq
      | exn h n l => cases mq
    rw [ef] at mq
    have z := (h3 j b mq).2.2
    rw [upd_same] at z
    cases z
/-- a slot's list is frozen -/
theorem Wd.freeze {ds : List D} {i : Nat} (w : Wd K T B F H σ ρ) (e : ρ[i]? = some (some (.ol ds))) : ∃ v F', σ[i]? = some (some v) ∧ Gw B F F' ∧ Wd K T B F' H σ (ρ.set i (some (.im (.lst ds)))) ∧ Is K T F' v (.lst ds) := by
  obtain ⟨φ, h1, h2, h3⟩ := id w.o
  obtain ⟨v, ev, q⟩ := h1 i _ e
  obtain ⟨a, vs, rfl, ef, ha, l⟩ := q.olI
  have am : a ∈ φ i := by rw [ef]; simp
  obtain ⟨_, fa, ba⟩ := h3 i a am
  have g : Gw B F (upd F a (.lst vs)) := ⟨same_upd fa, fun b o e => by
    by_cases z : b = a
    · subst z; exact .inr ba
    · rw [upd_ne z] at e; exact .inl e⟩
  have il : Is K T (upd F a (.lst vs)) (.ref a) (.lst ds) := .lst (SqL.of upd_same) (l.mono g.s)
  have hi : i < ρ.length := (List.getElem?_eq_some_iff.mp e).1
  refine ⟨_, upd F a (.lst vs), ev, g, ⟨w.b, fun b o e => ?_, by simpa using w.l, fset φ i [], fun j o e => ?_, fun j k b => ?_, fun j b => ?_⟩, il⟩
  · by_cases z : b = a
    · subst z; rw [upd_same] at e; cases e; exact ha
    · rw [upd_ne z] at e; exact w.f _ _ e
  · by_cases z : j = i
    · subst z
      rw [List.getElem?_set_self hi] at e
      cases e
      exact ⟨_, ev, by rw [fset_same]; exact .im il⟩
    · rw [List.getElem?_set_ne (Ne.symm z)] at e
      obtain ⟨x, e1, q1⟩ := h1 j o e
      exact ⟨x, e1, by rw [fset_ne z]; exact q1.mono g.s fun _ _ _ h => h⟩
  · by_cases z : j = i
    · subst z; rw [fset_same]; intro m; cases m
    · rw [fset_ne z]
      by_cases y : k = i
      · subst y; rw [fset_same]; intro _ m; cases m
      · rw [fset_ne y]; exact h2 j k b
  · by_cases z : j = i
    · subst z; rw [fset_same]; intro m; cases m
    · rw [fset_ne z]
      intro m
      obtain ⟨⟨o, e⟩, hf, hb⟩ := h3 j b m
      have y : b ≠ a := fun y => by subst y; exact z (h2 j i b m am)
      exact ⟨⟨o, by rw [List.getElem?_set_ne (Ne.symm z)]; exact e⟩, by rw [upd_ne y]; exact hf, hb⟩
end

/-! ### the judgements -/
/-- e runs as f says -/
structure PF (X : Cx) (T : Ct) (W : WX) (e : Expr) (f : En → Out D) : Prop where
  ex : ∃ t, PE X e t ∧ ∀ (B F H : Hp) (σ : L2.St) (ρ : En) (Q : VK), Wd X.K T B F H σ ρ → Post X.K T W B F σ (Is X.K T) (f ρ) Q → t σ H Q
/-- a test -/
structure TF (X : Cx) (T : Ct) (W : WX) (e : Expr) (f : En → Out Bool) : Prop where
  ex : ∃ t, PT X e t ∧ ∀ (B F H : Hp) (σ : L2.St) (ρ : En) (Q : Bool → Hp → Prop), Wd X.K T B F H σ ρ → Post X.K T W B F σ RB (f ρ) Q → t σ H Q
/-- e makes a new list -/
structure PN (X : Cx) (T : Ct) (W : WX) (e : Expr) (f : En → Out (List D)) : Prop where
  ex : ∃ t, PE X e t ∧ ∀ (B F H : Hp) (σ : L2.St) (ρ : En) (Q : VK), Wd X.K T B F H σ ρ → PostN X.K T W B F σ (f ρ) Q → t σ H Q
/-- arguments, all frozen -/
structure AF (X : Cx) (T : Ct) (W : WX) (es : List Expr) (f : En → Out (List D)) : Prop where
  ex : ∃ t, PA X es t ∧ ∀ (B F H : Hp) (σ : L2.St) (ρ : En) (Q : List V → Hp → Prop), Wd X.K T B F H σ ρ → Post X.K T W B F σ (IsL X.K T) (f ρ) Q → t σ H Q

section
variable {X : Cx} {T : Ct} {W : WX} {e a b c : Expr} {es : List Expr} {f fa fb : En → Out D} {pos : Pos}

/-! ### names, constants -/
def cst (d : D) : En → Out D := fun ρ => .ok d ρ
theorem pf_int {i : Int} {j : Nat} : PF X T W (.Constant (.int i) j pos) (cst (.int i)) := ⟨_, pe_int, fun B F H σ ρ Q w h => h F H _ Gw.refl w (.int i)⟩
theorem pf_bl {i : Bool} {j : Nat} : PF X T W (.Constant (.bool i) j pos) (cst (.bl i)) := ⟨_, pe_bl, fun B F H σ ρ Q w h => h F H _ Gw.refl w (.bl i)⟩
theorem pf_str {i : Str} {j : Nat} : PF X T W (.Constant (.str i) j pos) (cst (.str i)) := ⟨_, pe_str, fun B F H σ ρ Q w h => h F H _ Gw.refl w (.str i)⟩
theorem pf_non {j : Nat} : PF X T W (.Constant .none j pos) (cst .non) := ⟨_, pe_non, fun B F H σ ρ Q w h => h F H _ Gw.refl w .non⟩
/-- a name read as a value: an owned list is frozen -/
def rd (i : Nat) : En → Out D := fun ρ => match ρ[i]? with
  | some (some (.im d)) => .ok d ρ
  | some (some (.ol ds)) => .ok (.lst ds) (ρ.set i (some (.im (.lst ds))))
  | _ => .er
theorem pf_v {i : Nat} (h : PE X e (tVar i)) : PF X T W e (rd i) := by
  refine ⟨_, h, fun B F H σ ρ Q w q => ?_⟩
  unfold rd at q
  split at q
  · rename_i d e
    obtain ⟨v, ev, iv⟩ := w.get e
    exact ⟨v, ev, q F H v Gw.refl w iv⟩
  · rename_i ds e
    obtain ⟨v, F', ev, g, w', iv⟩ := w.freeze e
    exact ⟨v, ev, q F' H v g w' iv⟩
  · exact q.elim
/-- a new list as a value -/
def fz (f : En → Out (List D)) : En → Out D := fun ρ => (f ρ).bind fun ds ρ => .ok (.lst ds) ρ
theorem pf_n {f : En → Out (List D)} (h : PN X T W e f) : PF X T W e (fz f) := by
  obtain ⟨t, ht, hp⟩ := h
  refine ⟨t, ht, fun B F H σ ρ Q w q => hp B F H σ ρ Q w ((PostX.bind q).imp fun ds ρ' _ q F' H' a vs g hb hf w' l => ?_)⟩
  obtain ⟨g2, w2⟩ := w'.ice hb
  exact q _ H' _ (g.trans g2) w2 (.lst (SqL.of upd_same) (l.mono g2.s))

/-! ### arguments -/
def aN : En → Out (List D) := fun ρ => .ok [] ρ
def aC (f : En → Out D) (g : En → Out (List D)) : En → Out (List D) := fun ρ => (f ρ).bind fun d ρ => (g ρ).bind fun ds ρ => .ok (d :: ds) ρ
theorem af_nil : AF X T W [] aN := ⟨_, pa_nil, fun B F H σ ρ Q w h => h F H [] Gw.refl w .nil⟩
theorem af_cons {g : En → Out (List D)} (h1 : PF X T W e f) (h2 : AF X T W es g) (hs : starEach (e :: es) X.env = (false, eval e X.env) :: starEach es X.env := by rfl) : AF X T W (e :: es) (aC f g) := by
  obtain ⟨t, ht, hp⟩ := h1
  obtain ⟨u, hu, hq⟩ := h2
  refine ⟨_, pa_cons ht hu hs, fun B F H σ ρ Q w q => hp B F H σ ρ _ w (Post.step q fun d ρ1 F1 H1 v g1 w1 i1 q1 => ?_)⟩
  refine hq B F1 H1 σ ρ1 _ w1 (Post.step q1 fun ds ρ2 F2 H2 vs g2 w2 l2 q2 => ?_)
  exact q2 F2 H2 (v :: vs) Gw.refl w2 (.cons (i1.mono g2.s) l2)

/-! ### two-place operations by values -/
/-- f on two values runs as m says -/
structure OF (X : Cx) (T : Ct) (W : WX) (f : Value → Value → Sem Value) (m : D → D → En → Out D) : Prop where
  ex : ∃ r : R2, OpR X f r ∧ ∀ (B F H : Hp) (σ : L2.St) (ρ : En) (Q : VK) v1 d1 v2 d2, Wd X.K T B F H σ ρ → Is X.K T F v1 d1 → Is X.K T F v2 d2 → Post X.K T W B F σ (Is X.K T) (m d1 d2 ρ) Q → r v1 v2 H Q
def op2 (m : D → D → En → Out D) (fa fb : En → Out D) : En → Out D := fun ρ => (fa ρ).bind fun x ρ => (fb ρ).bind fun y ρ => m x y ρ
theorem pf_op {op : Operator} {m : D → D → En → Out D} (o : OF X T W (binaryOp op) m) (ha : PF X T W a fa) (hb : PF X T W b fb) : PF X T W (.BinOp a op b pos) (op2 m fa fb) := by
  obtain ⟨r, hr, hm⟩ := o
  obtain ⟨t, ht, hp⟩ := ha
  obtain ⟨u, hu, hq⟩ := hb
  refine ⟨_, pe_op hr ht hu, fun B F H σ ρ Q w q => hp B F H σ ρ _ w (Post.step q fun x ρ1 F1 H1 v1 g1 w1 i1 q1 => ?_)⟩
  exact hq B F1 H1 σ ρ1 _ w1 (Post.step q1 fun y ρ2 F2 H2 v2 g2 w2 i2 q2 => hm B F2 H2 σ ρ2 Q v1 x v2 y w2 (i1.mono g2.s) i2 q2)
/-- a value, or no road -/
def opt (o : Option D) : En → Out D := fun ρ => match o with
  | some d => .ok d ρ
  | none => .er
theorem opt_post {o : Option D} {ρ : En} {B F : Hp} {σ : L2.St} {Q : VK} (h : Post X.K T W B F σ (Is X.K T) (opt o ρ) Q) : ∃ d, o = some d ∧ good X.K T B F σ (Is X.K T) Q d ρ := by
  cases o with
  | none => exact h.elim
  | some d => exact ⟨d, rfl, h⟩
/-- two ints -/
def ii (g : Int → Int → Option D) : D → D → Option D
  | .int i, .int j => g i j
  | _, _ => none
theorem Is.intI {K : PySem.W.Frag} {F : Hp} {v : V} {i : Int} (h : Is K T F v (.int i)) : v = .int i := by
  cases h with
  | int _ => rfl
theorem Is.blI {K : PySem.W.Frag} {F : Hp} {v : V} {i : Bool} (h : Is K T F v (.bl i)) : v = .bl i := by
  cases h with
  | bl _ => rfl
theorem Is.strI {K : PySem.W.Frag} {F : Hp} {v : V} {i : Str} (h : Is K T F v (.str i)) : v = .str i := by
  cases h with
  | str _ => rfl
theorem Is.nonI {K : PySem.W.Frag} {F : Hp} {v : V} (h : Is K T F v .non) : v = .non := by
  cases h with
  | non => rfl
theorem Is.lstI {K : PySem.W.Frag} {F : Hp} {v : V} {ds : List D} (h : Is K T F v (.lst ds)) : ∃ a vs, v = .ref a ∧ SqL K F a vs ∧ IsL K T F vs ds := by
  cases h with
  | lst h l => exact ⟨_, _, rfl, h, l⟩
theorem Is.tupI {K : PySem.W.Frag} {F : Hp} {v : V} {ds : List D} (h : Is K T F v (.tup ds)) : ∃ a vs, v = .ref a ∧ SqT K F a vs ∧ IsL K T F vs ds := by
  cases h with
  | tup h l => exact ⟨_, _, rfl, h, l⟩
theorem Is.insI {K : PySem.W.Frag} {F : Hp} {v : V} {c : Nat} {ds : List D} (h : Is K T F v (.ins c ds)) : ∃ a dx fs, v = .ref a ∧ F a = some (.ins (T.cl c) dx fs) ∧ fs.map (·.1) = T.fl c ∧ IsL K T F (fs.map (·.2)) ds := by
  cases h with
  | ins h n l => exact ⟨_, _, _, rfl, h, n, l⟩
theorem of_ii {f : Value → Value → Sem Value} {C : Int → Int → Prop} {g : Int → Int → V} {k : Int → Int → Option D} (h : OpR X f (rI C g)) (hk : ∀ i j d, k i j = some d → C i j ∧ ∀ F, Is X.K T F (g i j) d) : OF X T W f (fun x y => opt (ii k x y)) := by
  refine ⟨_, h, fun B F H σ ρ Q v1 d1 v2 d2 w i1 i2 q => ?_⟩
  obtain ⟨d, e, gd⟩ := opt_post q
  unfold ii at e
  split at e
  · rename_i i j
    obtain ⟨hc, hd⟩ := hk i j d e
    exact ⟨i, j, i1.intI, i2.intI, hc, gd F H _ Gw.refl w (hd F)⟩
  · cases e
theorem of_ii0 {f : Value → Value → Sem Value} {g : Int → Int → V} {k : Int → Int → D} (h : OpR X f (rI0 g)) (hk : ∀ i j F, Is X.K T F (g i j) (k i j)) : OF X T W f (fun x y => opt (ii (fun i j => some (k i j)) x y)) := by
  refine ⟨_, h, fun B F H σ ρ Q v1 d1 v2 d2 w i1 i2 q => ?_⟩
  obtain ⟨d, e, q⟩ := opt_post q
  unfold ii at e
  split at e
  · rename_i i j
    cases e
    exact ⟨i, j, i1.intI, i2.intI, q F H _ Gw.refl w (hk i j F)⟩
  · cases e
/-- small enough for a product -/
def mulOk (i j : Int) : Bool := decide (i.natAbs.log2 + j.natAbs.log2 < 100000000)
def divOk (j : Int) : Bool := decide (j ≠ 0) && decide (j.natAbs.log2 < 9000)
abbrev iAdd : D → D → En → Out D := fun x y => opt (ii (fun i j => some (.int (i + j))) x y)
abbrev iSub : D → D → En → Out D := fun x y => opt (ii (fun i j => some (.int (i - j))) x y)
abbrev iMul : D → D → En → Out D := fun x y => opt (ii (fun i j => if mulOk i j then some (.int (i * j)) else none) x y)
abbrev iDiv : D → D → En → Out D := fun x y => opt (ii (fun i j => if divOk j then some (.int (i.fdiv j)) else none) x y)
abbrev iMod : D → D → En → Out D := fun x y => opt (ii (fun i j => if decide (j ≠ 0) then some (.int (i.fmod j)) else none) x y)
theorem of_add : OF X T W (binaryOp .Add) iAdd := of_ii0 op_add fun _ _ _ => .int _
theorem of_sub : OF X T W (binaryOp .Sub) iSub := of_ii0 op_sub fun _ _ _ => .int _
theorem mulOk_fits {i j : Int} (h : mulOk i j = true) : IntMulOk i j := by
  have h := of_decide_eq_true h
  have bits : ∀ x : Int, Builtin.Int.intBits x ≤ x.natAbs.log2 + 1 := fun x => by
    unfold Builtin.Int.intBits
    split <;> omega
  have h1 := bits i
  have h2 := bits j
  have line : bitsLine = 134217728 := by decide
  intro z
  rw [Bool.and_eq_true] at z
  have z2 := z.2
  unfold Builtin.Int.intTooBig at z2
  have z3 := of_decide_eq_true z2
  rw [line] at z3
  omega
theorem op_mulX : OpR X (binaryOp .Mult) (rI (fun i j => mulOk i j = true) fun i j => .int (i * j)) := opI fun _ _ _ _ _ _ _ hc q => mul_int q (mulOk_fits hc)
theorem of_mul : OF X T W (binaryOp .Mult) iMul := of_ii op_mulX fun i j d e => by
  split at e
  · rename_i h
    cases e
    exact ⟨h, fun _ => .int _⟩
  · cases e
theorem op_fdivA : OpR X (binaryOp .FloorDiv) (rI (fun _ j => j ≠ 0 ∧ j.natAbs.log2 < 9000) fun i j => .int (i.fdiv j)) :=
  opI fun i j t u s Q E hc q => floordiv_int hc.1 q (.inl (PyProof.noPylong_of_log2 hc.2))
theorem of_div : OF X T W (binaryOp .FloorDiv) iDiv := of_ii op_fdivA fun i j d e => by
  split at e
  · rename_i h
    cases e
    obtain ⟨h1, h2⟩ := Bool.and_eq_true_iff.mp h
    exact ⟨⟨of_decide_eq_true h1, of_decide_eq_true h2⟩, fun _ => .int _⟩
  · cases e
theorem of_mod : OF X T W (binaryOp .Mod) iMod := of_ii op_modN fun i j d e => by
  split at e
  · rename_i h
    cases e
    exact ⟨of_decide_eq_true h, fun _ => .int _⟩
  · cases e
end
end Ce
namespace Ce
open PySem PySem.Spec PyProof.Rows L2 Ce

section
variable {X : Cx} {T : Ct} {W : WX} {e a b c : Expr} {es : List Expr} {f fa fb fc : En → Out D} {pos p p2 : Pos}

/-! ### comparisons by values -/
abbrev iLt : D → D → En → Out D := fun x y => opt (ii (fun i j => some (.bl (decide (i < j)))) x y)
abbrev iLe : D → D → En → Out D := fun x y => opt (ii (fun i j => some (.bl (decide (i ≤ j)))) x y)
abbrev iGt : D → D → En → Out D := fun x y => opt (ii (fun i j => some (.bl (decide (j < i)))) x y)
abbrev iGe : D → D → En → Out D := fun x y => opt (ii (fun i j => some (.bl (decide (j ≤ i)))) x y)
theorem of_lt : OF X T W (compareOp .Lt) iLt := of_ii0 op_lt fun _ _ _ => .bl _
theorem of_le : OF X T W (compareOp .LtE) iLe := of_ii0 op_le fun _ _ _ => .bl _
theorem of_gt : OF X T W (compareOp .Gt) iGt := of_ii0 op_gt fun _ _ _ => .bl _
theorem of_ge : OF X T W (compareOp .GtE) iGe := of_ii0 op_ge fun _ _ _ => .bl _
/-- == of scalars -/
def seq : D → D → Option Bool
  | .int i, .int j => some (decide (i = j))
  | .str i, .str j => some (decide (i = j))
  | .bl i, .bl j => some (decide (i = j))
  | .non, .non => some true
  | .int _, .str _ => some false
  | .str _, .int _ => some false
  | .non, .int _ => some false
  | .int _, .non => some false
  | .non, .str _ => some false
  | .str _, .non => some false
  | _, _ => none
theorem seq_ok {K : PySem.W.Frag} {F : Hp} {v1 v2 : V} {d1 d2 : D} {r : Bool} (h : seq d1 d2 = some r) (i1 : Is K T F v1 d1) (i2 : Is K T F v2 d2) : scal v1 v2 = true ∧ decide (v1 = v2) = r := by
  unfold seq at h
  split at h <;> (try cases h)
  · rw [i1.intI, i2.intI]; exact ⟨rfl, by simp⟩
  · rw [i1.strI, i2.strI]; exact ⟨rfl, by simp⟩
  · rw [i1.blI, i2.blI]; exact ⟨rfl, by simp⟩
  · rw [i1.nonI, i2.nonI]; exact ⟨rfl, by simp⟩
  · rw [i1.intI, i2.strI]; exact ⟨rfl, by simp⟩
  · rw [i1.strI, i2.intI]; exact ⟨rfl, by simp⟩
  · rw [i1.nonI, i2.intI]; exact ⟨rfl, by simp⟩
  · rw [i1.intI, i2.nonI]; exact ⟨rfl, by simp⟩
  · rw [i1.nonI, i2.strI]; exact ⟨rfl, by simp⟩
  · rw [i1.strI, i2.nonI]; exact ⟨rfl, by simp⟩
abbrev sEq : D → D → En → Out D := fun x y => opt ((seq x y).map D.bl)
abbrev sNe : D → D → En → Out D := fun x y => opt ((seq x y).map fun k => D.bl (!k))
theorem of_eq : OF X T W (compareOp .Eq) sEq := by
  refine ⟨_, op_eq, fun B F H σ ρ Q v1 d1 v2 d2 w i1 i2 q => ?_⟩
  obtain ⟨d, e, gd⟩ := opt_post q
  obtain ⟨k, ek, rfl⟩ := Option.map_eq_some_iff.mp e
  obtain ⟨h1, h2⟩ := seq_ok ek i1 i2
  exact ⟨h1, by rw [h2]; exact gd F H _ Gw.refl w (.bl _)⟩
theorem of_ne : OF X T W (compareOp .NotEq) sNe := by
  refine ⟨_, op_ne, fun B F H σ ρ Q v1 d1 v2 d2 w i1 i2 q => ?_⟩
  obtain ⟨d, e, gd⟩ := opt_post q
  obtain ⟨k, ek, rfl⟩ := Option.map_eq_some_iff.mp e
  obtain ⟨h1, h2⟩ := seq_ok ek i1 i2
  exact ⟨h1, by rw [h2]; exact gd F H _ Gw.refl w (.bl _)⟩
/-- is None -/
def isN : D → Option Bool
  | .non => some true
  | .raw _ => none
  | _ => some false
theorem isN_ok {K : PySem.W.Frag} {F : Hp} {v : V} {d : D} {r : Bool} (h : isN d = some r) (i : Is K T F v d) : decide (v = .non) = r := by
  cases i <;> cases h <;> simp
abbrev oIs : D → D → En → Out D := fun x y => opt (match y with | .non => (isN x).map D.bl | _ => none)
abbrev oIsN : D → D → En → Out D := fun x y => opt (match y with | .non => (isN x).map (fun k => D.bl (!k)) | _ => none)
theorem of_is : OF X T W (compareOp .Is) oIs := by
  refine ⟨_, op_isN, fun B F H σ ρ Q v1 d1 v2 d2 w i1 i2 q => ?_⟩
  obtain ⟨d, e, gd⟩ := opt_post q
  split at e
  · obtain ⟨k, ek, rfl⟩ := Option.map_eq_some_iff.mp e
    exact ⟨i2.nonI, by rw [isN_ok ek i1]; exact gd F H _ Gw.refl w (.bl _)⟩
  · cases e
theorem of_isnot : OF X T W (compareOp .IsNot) oIsN := by
  refine ⟨_, op_notN, fun B F H σ ρ Q v1 d1 v2 d2 w i1 i2 q => ?_⟩
  obtain ⟨d, e, gd⟩ := opt_post q
  split at e
  · obtain ⟨k, ek, rfl⟩ := Option.map_eq_some_iff.mp e
    exact ⟨i2.nonI, by rw [isN_ok ek i1]; exact gd F H _ Gw.refl w (.bl _)⟩
  · cases e
/-- is of two truth values -/
def bb (g : Bool → Bool → D) : D → D → Option D
  | .bl i, .bl j => some (g i j)
  | _, _ => none
abbrev bIs : D → D → En → Out D := fun x y => opt (bb (fun i j => .bl (decide (i = j))) x y)
abbrev bIsN : D → D → En → Out D := fun x y => opt (bb (fun i j => .bl (!decide (i = j))) x y)
theorem of_isB : OF X T W (compareOp .Is) bIs := by
  refine ⟨_, op_is_bl, fun B F H σ ρ Q v1 d1 v2 d2 w i1 i2 q => ?_⟩
  obtain ⟨d, e, gd⟩ := opt_post q
  unfold bb at e
  split at e
  · cases e
    exact ⟨_, _, i1.blI, i2.blI, gd F H _ Gw.refl w (.bl _)⟩
  · cases e
theorem of_isnotB : OF X T W (compareOp .IsNot) bIsN := by
  refine ⟨_, op_isnot_bl, fun B F H σ ρ Q v1 d1 v2 d2 w i1 i2 q => ?_⟩
  obtain ⟨d, e, gd⟩ := opt_post q
  unfold bb at e
  split at e
  · cases e
    exact ⟨_, _, i1.blI, i2.blI, gd F H _ Gw.refl w (.bl _)⟩
  · cases e
/-- two texts -/
def ss (g : Str → Str → Option D) : D → D → Option D
  | .str i, .str j => g i j
  | _, _ => none
abbrev tAddS : D → D → En → Out D := fun x y => opt (ss (fun i j => if decide (i.length + j.length ≤ sizeLine) then some (.str (i ++ j)) else none) x y)
theorem of_addS : OF X T W (binaryOp .Add) tAddS := by
  refine ⟨_, op_add_str, fun B F H σ ρ Q v1 d1 v2 d2 w i1 i2 q => ?_⟩
  obtain ⟨d, e, gd⟩ := opt_post q
  unfold ss at e
  split at e
  · dsimp only at e
    split at e
    · rename_i h
      cases e
      exact ⟨_, _, i1.strI, i2.strI, of_decide_eq_true h, gd F H _ Gw.refl w (.str _)⟩
    · cases e
  · cases e
abbrev tInS : D → D → En → Out D := fun x y => opt (ss (fun i j => some (.bl (!(Builtin.Str.occurrences j i 0 j.length 1).isEmpty))) x y)
abbrev tNotInS : D → D → En → Out D := fun x y => opt (ss (fun i j => some (.bl (!(!(Builtin.Str.occurrences j i 0 j.length 1).isEmpty)))) x y)
theorem of_inS : OF X T W (compareOp .In) tInS := by
  refine ⟨_, op_in_str, fun B F H σ ρ Q v1 d1 v2 d2 w i1 i2 q => ?_⟩
  obtain ⟨d, e, gd⟩ := opt_post q
  unfold ss at e
  split at e
  · cases e
    exact ⟨_, _, i1.strI, i2.strI, gd F H _ Gw.refl w (.bl _)⟩
  · cases e
theorem of_notInS : OF X T W (compareOp .NotIn) tNotInS := by
  refine ⟨_, op_notIn_str, fun B F H σ ρ Q v1 d1 v2 d2 w i1 i2 q => ?_⟩
  obtain ⟨d, e, gd⟩ := opt_post q
  unfold ss at e
  split at e
  · cases e
    exact ⟨_, _, i1.strI, i2.strI, gd F H _ Gw.refl w (.bl _)⟩
  · cases e

/-! ### comparisons as expressions and tests -/
theorem pf_cmp {op : CmpOp} {m : D → D → En → Out D} (o : OF X T W (compareOp op) m) (ha : PF X T W a fa) (hb : PF X T W b fb) (hm : behindInMarks op b = false) : PF X T W (.Compare a [op] [b] pos) (op2 m fa fb) := by
  obtain ⟨r, hr, hm'⟩ := o
  obtain ⟨t, ht, hp⟩ := ha
  obtain ⟨u, hu, hq⟩ := hb
  refine ⟨_, pe_cmpR hr ht hu hm, fun B F H σ ρ Q w q => hp B F H σ ρ _ w (Post.step q fun x ρ1 F1 H1 v1 g1 w1 i1 q1 => ?_)⟩
  exact hq B F1 H1 σ ρ1 _ w1 (Post.step q1 fun y ρ2 F2 H2 v2 g2 w2 i2 q2 => hm' B F2 H2 σ ρ2 Q v1 x v2 y w2 (i1.mono g2.s) i2 q2)
/-- a truth value as a test -/
def tst (f : En → Out D) : En → Out Bool := fun ρ => (f ρ).bind fun d ρ => match d with
  | .bl k => .ok k ρ
  | _ => .er
theorem tst_step {K : PySem.W.Frag} {B F : Hp} {σ : L2.St} {ρ : En} {Q : Bool → Hp → Prop} (q : Post K T W B F σ RB (tst f ρ) Q) : Post K T W B F σ (Is K T) (f ρ) (fun x H => ∃ k, x = .bl k ∧ Q k H) := by
  refine Post.step q fun d ρ1 F1 H1 v g w i q1 => ?_
  cases d with
  | bl k => exact ⟨k, i.blI, q1 F1 H1 k Gw.refl w rfl⟩
  | _ => exact q1.elim
theorem tf_val (h : PF X T W e f) (he : ∀ whole, isTrue e X.env whole = (do let v ← whole; standAt e.pos; holding [v] (truthy v)) := by intro _; rfl) : TF X T W e (tst f) := by
  obtain ⟨t, ht, hp⟩ := h
  exact ⟨_, pt_val ht he, fun B F H σ ρ Q w q => hp B F H σ ρ _ w (tst_step q)⟩
theorem tf_cmp {op : CmpOp} {m : D → D → En → Out D} (o : OF X T W (compareOp op) m) (ha : PF X T W a fa) (hb : PF X T W b fb) (hm : behindInMarks op b = false) : TF X T W (.Compare a [op] [b] pos) (tst (op2 m fa fb)) := by
  obtain ⟨r, hr, hm'⟩ := o
  obtain ⟨t, ht, hp⟩ := ha
  obtain ⟨u, hu, hq⟩ := hb
  refine ⟨_, pt_cmpR hr ht hu hm, fun B F H σ ρ Q w q => ?_⟩
  have q0 := tst_step q
  refine hp B F H σ ρ _ w (Post.step q0 fun x ρ1 F1 H1 v1 g1 w1 i1 q1 => ?_)
  exact hq B F1 H1 σ ρ1 _ w1 (Post.step q1 fun y ρ2 F2 H2 v2 g2 w2 i2 q2 => hm' B F2 H2 σ ρ2 _ v1 x v2 y w2 (i1.mono g2.s) i2 q2)
/-- a op b op' c -/
def chn (m m' : D → D → En → Out D) (fa fb fc : En → Out D) : En → Out D := fun ρ => (fa ρ).bind fun x ρ => (fb ρ).bind fun y ρ => (m x y ρ).bind fun z ρ => match z with
  | .bl true => (fc ρ).bind fun w ρ => m' y w ρ
  | .bl false => .ok (.bl false) ρ
  | _ => .er
theorem chn_ok {op op' : CmpOp} {m m' : D → D → En → Out D} (o : OF X T W (compareOp op) m) (o' : OF X T W (compareOp op') m') (ha : PF X T W a fa) (hb : PF X T W b fb) (hc : PF X T W c fc) :
    ∃ r r' ta tb tc, OpR X (compareOp op) r ∧ OpR X (compareOp op') r' ∧ PE X a ta ∧ PE X b tb ∧ PE X c tc ∧
      ∀ (B F H : Hp) (σ : L2.St) (ρ : En) (Q : VK), Wd X.K T B F H σ ρ → Post X.K T W B F σ (Is X.K T) (chn m m' fa fb fc ρ) Q → tChain r r' ta tb tc σ H Q := by
  obtain ⟨r, hr, hm⟩ := o
  obtain ⟨r', hr', hm'⟩ := o'
  obtain ⟨t, ht, hp⟩ := ha
  obtain ⟨u, hu, hq⟩ := hb
  obtain ⟨z, hz, hs⟩ := hc
  refine ⟨r, r', t, u, z, hr, hr', ht, hu, hz, fun B F H σ ρ Q w q => ?_⟩
  refine hp B F H σ ρ _ w (Post.step q fun x ρ1 F1 H1 v1 g1 w1 i1 q1 => ?_)
  refine hq B F1 H1 σ ρ1 _ w1 (Post.step q1 fun y ρ2 F2 H2 v2 g2 w2 i2 q2 => ?_)
  refine hm B F2 H2 σ ρ2 _ v1 x v2 y w2 (i1.mono g2.s) i2 (Post.step q2 fun k ρ3 F3 H3 v3 g3 w3 i3 q3 => ?_)
  cases k with
  | bl k =>
    refine ⟨k, i3.blI, ?_⟩
    cases k with
    | true =>
      rw [if_pos rfl]
      exact hs B F3 H3 σ ρ3 _ w3 (Post.step q3 fun d ρ4 F4 H4 v4 g4 w4 i4 q4 => hm' B F4 H4 σ ρ4 Q v2 y v4 d w4 ((i2.mono g3.s).mono g4.s) i4 q4)
    | false =>
      rw [if_neg Bool.false_ne_true]
      exact q3 F3 H3 _ Gw.refl w3 (.bl false)
  | _ => exact q3.elim
theorem pf_chn {op op' : CmpOp} {m m' : D → D → En → Out D} (o : OF X T W (compareOp op) m) (o' : OF X T W (compareOp op') m') (ha : PF X T W a fa) (hb : PF X T W b fb) (hc : PF X T W c fc) (hm : lastMarks [op, op'] [b, c] = false := by with_unfolding_all rfl) :
    PF X T W (.Compare a [op, op'] [b, c] pos) (chn m m' fa fb fc) := by
  obtain ⟨r, r', t, u, z, hr, hr', ht, hu, hz, h⟩ := chn_ok o o' ha hb hc
  exact ⟨_, pe_chain hr hr' ht hu hz hm, h⟩
theorem tf_chn {op op' : CmpOp} {m m' : D → D → En → Out D} (o : OF X T W (compareOp op) m) (o' : OF X T W (compareOp op') m') (ha : PF X T W a fa) (hb : PF X T W b fb) (hc : PF X T W c fc) (hm : lastMarks [op, op'] [b, c] = false := by with_unfolding_all rfl) :
    TF X T W (.Compare a [op, op'] [b, c] pos) (tst (chn m m' fa fb fc)) := by
  obtain ⟨r, r', t, u, z, hr, hr', ht, hu, hz, h⟩ := chn_ok o o' ha hb hc
  exact ⟨_, pt_chain hr hr' ht hu hz hm, fun B F H σ ρ Q w q => h B F H σ ρ _ w (tst_step q)⟩

/-! ### and, or, not, if -/
/-- a test whatever its whole is -/
structure WF (X : Cx) (T : Ct) (W : WX) (e : Expr) (f : En → Out Bool) : Prop where
  ex : ∃ t, PW X e t ∧ ∀ (B F H : Hp) (σ : L2.St) (ρ : En) (Q : Bool → Hp → Prop), Wd X.K T B F H σ ρ → Post X.K T W B F σ RB (f ρ) Q → t σ H Q
variable {ga gb : En → Out Bool} {rest : List Expr}
theorem tf_w (h : WF X T W e ga) : TF X T W e ga := by
  obtain ⟨t, ht, hp⟩ := h
  exact ⟨t, ht.pt, hp⟩
def tAnd2 (f g : En → Out Bool) : En → Out Bool := fun ρ => (f ρ).bind fun k ρ => match k with
  | true => g ρ
  | false => .ok false ρ
def tOr2 (f g : En → Out Bool) : En → Out Bool := fun ρ => (f ρ).bind fun k ρ => match k with
  | true => .ok true ρ
  | false => g ρ
def tNot1 (f : En → Out Bool) : En → Out Bool := fun ρ => (f ρ).bind fun k ρ => .ok (!k) ρ
theorem wf_and1 (ha : TF X T W a ga) : WF X T W (.BoolOp .And [a] pos) ga := by
  obtain ⟨t, ht, hp⟩ := ha
  exact ⟨t, pw_and1 ht, hp⟩
theorem wf_or1 (ha : TF X T W a ga) : WF X T W (.BoolOp .Or [a] pos) ga := by
  obtain ⟨t, ht, hp⟩ := ha
  exact ⟨t, pw_or1 ht, hp⟩
theorem wf_and (ha : TF X T W a ga) (hb : WF X T W (.BoolOp .And (b :: rest) pos) gb) : WF X T W (.BoolOp .And (a :: b :: rest) pos) (tAnd2 ga gb) := by
  obtain ⟨t, ht, hp⟩ := ha
  obtain ⟨u, hu, hq⟩ := hb
  refine ⟨_, pw_and ht hu, fun B F H σ ρ Q w q => hp B F H σ ρ _ w (Post.step q fun k ρ1 F1 H1 k' g1 w1 i1 q1 => ?_)⟩
  cases (show k' = k from i1)
  cases k with
  | true => rw [if_pos rfl]; exact hq B F1 H1 σ ρ1 Q w1 q1
  | false => rw [if_neg Bool.false_ne_true]; exact q1 F1 H1 false Gw.refl w1 rfl
theorem wf_or (ha : TF X T W a ga) (hb : WF X T W (.BoolOp .Or (b :: rest) pos) gb) : WF X T W (.BoolOp .Or (a :: b :: rest) pos) (tOr2 ga gb) := by
  obtain ⟨t, ht, hp⟩ := ha
  obtain ⟨u, hu, hq⟩ := hb
  refine ⟨_, pw_or ht hu, fun B F H σ ρ Q w q => hp B F H σ ρ _ w (Post.step q fun k ρ1 F1 H1 k' g1 w1 i1 q1 => ?_)⟩
  cases (show k' = k from i1)
  cases k with
  | true => rw [if_pos rfl]; exact q1 F1 H1 true Gw.refl w1 rfl
  | false => rw [if_neg Bool.false_ne_true]; exact hq B F1 H1 σ ρ1 Q w1 q1
theorem tf_not (ha : TF X T W a ga) : TF X T W (.UnaryOp .Not a pos) (tNot1 ga) := by
  obtain ⟨t, ht, hp⟩ := ha
  refine ⟨_, pt_not ht, fun B F H σ ρ Q w q => hp B F H σ ρ _ w (Post.step q fun k ρ1 F1 H1 k' g1 w1 i1 q1 => ?_)⟩
  cases (show k' = k from i1)
  exact q1 F1 H1 _ Gw.refl w1 rfl
def vAnd2 (f g : En → Out D) : En → Out D := fun ρ => (f ρ).bind fun d ρ => match d with
  | .bl true => g ρ
  | .bl false => .ok (.bl false) ρ
  | _ => .er
def vOr2 (f g : En → Out D) : En → Out D := fun ρ => (f ρ).bind fun d ρ => match d with
  | .bl true => .ok (.bl true) ρ
  | .bl false => g ρ
  | _ => .er
def vNot1 (f : En → Out D) : En → Out D := fun ρ => (f ρ).bind fun d ρ => match d with
  | .bl k => .ok (.bl (!k)) ρ
  | _ => .er
theorem pf_one {op : BoolOp} (h : PF X T W a fa) : PF X T W (.BoolOp op [a] pos) fa := by
  obtain ⟨t, ht, hp⟩ := h
  exact ⟨t, pe_one ht, hp⟩
theorem pf_and (ha : PF X T W a fa) (hb : PF X T W (.BoolOp .And (b :: rest) pos) fb) : PF X T W (.BoolOp .And (a :: b :: rest) pos) (vAnd2 fa fb) := by
  obtain ⟨t, ht, hp⟩ := ha
  obtain ⟨u, hu, hq⟩ := hb
  refine ⟨_, pe_and ht hu, fun B F H σ ρ Q w q => hp B F H σ ρ _ w (Post.step q fun d ρ1 F1 H1 v g1 w1 i1 q1 => ?_)⟩
  cases d with
  | bl k =>
    refine ⟨k, i1.blI, ?_⟩
    cases k with
    | true => rw [if_pos rfl]; exact hq B F1 H1 σ ρ1 Q w1 q1
    | false => rw [if_neg Bool.false_ne_true]; exact q1 F1 H1 _ Gw.refl w1 (.bl false)
  | _ => exact q1.elim
theorem pf_or (ha : PF X T W a fa) (hb : PF X T W (.BoolOp .Or (b :: rest) pos) fb) : PF X T W (.BoolOp .Or (a :: b :: rest) pos) (vOr2 fa fb) := by
  obtain ⟨t, ht, hp⟩ := ha
  obtain ⟨u, hu, hq⟩ := hb
  refine ⟨_, pe_or ht hu, fun B F H σ ρ Q w q => hp B F H σ ρ _ w (Post.step q fun d ρ1 F1 H1 v g1 w1 i1 q1 => ?_)⟩
  cases d with
  | bl k =>
    refine ⟨k, i1.blI, ?_⟩
    cases k with
    | true => rw [if_pos rfl]; exact q1 F1 H1 _ Gw.refl w1 (.bl true)
    | false => rw [if_neg Bool.false_ne_true]; exact hq B F1 H1 σ ρ1 Q w1 q1
  | _ => exact q1.elim
theorem pf_not (ha : PF X T W a fa) : PF X T W (.UnaryOp .Not a pos) (vNot1 fa) := by
  obtain ⟨t, ht, hp⟩ := ha
  refine ⟨_, pe_not ht, fun B F H σ ρ Q w q => hp B F H σ ρ _ w (Post.step q fun d ρ1 F1 H1 v g1 w1 i1 q1 => ?_)⟩
  cases d with
  | bl k => exact ⟨k, i1.blI, q1 F1 H1 _ Gw.refl w1 (.bl _)⟩
  | _ => exact q1.elim
/-- -a of an int -/
def iNeg (f : En → Out D) : En → Out D := fun ρ => (f ρ).bind fun d ρ => match d with
  | .int i => .ok (.int (-i)) ρ
  | _ => .er
theorem pf_neg (ha : PF X T W a fa) : PF X T W (.UnaryOp .USub a pos) (iNeg fa) := by
  obtain ⟨t, ht, hp⟩ := ha
  refine ⟨_, pe_un un_neg ht, fun B F H σ ρ Q w q => hp B F H σ ρ _ w (Post.step q fun d ρ1 F1 H1 v g1 w1 i1 q1 => ?_)⟩
  cases d with
  | int k => exact ⟨k, i1.intI, q1 F1 H1 _ Gw.refl w1 (.int _)⟩
  | _ => exact q1.elim

/-! ### tuples, lists written out -/
def vTup (g : En → Out (List D)) : En → Out D := fun ρ => (g ρ).bind fun ds ρ => if decide (ds.length ≤ sizeLine) then .ok (.tup ds) ρ else .er
theorem pf_tup {g : En → Out (List D)} {k : Nat} (h : AF X T W es g) : PF X T W (.Tuple es k pos) (vTup g) := by
  obtain ⟨t, ht, hp⟩ := h
  refine ⟨_, pe_tup ht, fun B F H σ ρ Q w q => hp B F H σ ρ _ w (Post.step q fun ds ρ1 F1 H1 vs g1 w1 l q1 => ?_)⟩
  split at q1
  · rename_i hz
    refine ⟨by rw [l.length]; exact of_decide_eq_true hz, fun p hp => ?_⟩
    obtain ⟨g2, w2⟩ := w1.new (u := .tup vs) hp
    exact q1 _ _ _ g2 w2 (.tup (SqT.of upd_same) (l.mono g2.s))
  · exact q1.elim
def nLst (g : En → Out (List D)) : En → Out (List D) := fun ρ => (g ρ).bind fun ds ρ => if decide (ds.length ≤ sizeLine) then .ok ds ρ else .er
theorem pn_lst {g : En → Out (List D)} (h : AF X T W es g) : PN X T W (.List es pos) (nLst g) := by
  obtain ⟨t, ht, hp⟩ := h
  refine ⟨_, pe_lst ht, fun B F H σ ρ Q w q => hp B F H σ ρ _ w (PostN.step q fun ds ρ1 F1 H1 vs g1 w1 l q1 => ?_)⟩
  split at q1
  · rename_i hz
    refine ⟨by rw [l.length]; exact of_decide_eq_true hz, fun p hp => ?_⟩
    exact q1 F1 _ p vs Gw.refl (w1.nofree hp).2 (w1.nofree hp).1 (Wd.fresh w1 hp) l
  · exact q1.elim
end
end Ce
namespace Ce
open PySem PySem.Spec PyProof.Rows L2 Ce

/-- what a view of a list shows -/
def goodV (K : PySem.W.Frag) (T : Ct) (B F : Hp) (σ : L2.St) (Q : VK) (ds : List D) (ρ : En) : Prop :=
  ∀ F' H' a vs, Gw B F F' → Wd K T B F' H' σ ρ → SqL K H' a vs → IsL K T F' vs ds → Q (.ref a) H'
/-- e evaluates to a list that is read only -/
structure VF (X : Cx) (T : Ct) (W : WX) (e : Expr) (f : En → Out (List D)) : Prop where
  ex : ∃ t, PE X e t ∧ ∀ (B F H : Hp) (σ : L2.St) (ρ : En) (Q : VK), Wd X.K T B F H σ ρ → PostX X.K T W B F σ (goodV X.K T B F σ Q) (f ρ) → t σ H Q

section
variable {X : Cx} {T : Ct} {W : WX} {e a b c : Expr} {es : List Expr} {f fa fb fc : En → Out D} {pos p p2 : Pos}

/-! ### fields -/
/-- e.f of instances: tbl tells, by the class, the field's place -/
structure FldOk (K : PySem.W.Frag) (T : Ct) (f : Str) (tbl : Nat → Option Nat) : Prop where
  ok : ∀ c j, tbl c = some j → Cls K (T.cl c) ∧ NoAttr K (T.cl c) f ∧ (T.fl c)[j]? = some f ∧ (T.fl c).Nodup
theorem lookup_at {f : Str} : ∀ {fs : List (Str × V)} {j : Nat} {v : V}, (fs.map (·.1)).Nodup → (fs.map (·.1))[j]? = some f → (fs.map (·.2))[j]? = some v → fs.lookup f = some v
  | [], _, _, _, h, _ => by simp at h
  | (g, u) :: r, 0, v, _, h1, h2 => by
    simp at h1 h2
    subst h1 h2
    simp [List.lookup]
  | (g, u) :: r, j + 1, v, nd, h1, h2 => by
    simp only [List.map_cons, List.nodup_cons] at nd
    simp only [List.map_cons, List.getElem?_cons_succ] at h1 h2
    have ne : f ≠ g := fun z => nd.1 (z ▸ List.mem_of_getElem? h1)
    have q := lookup_at (fs := r) nd.2 h1 h2
    show (match f == g with | true => some u | false => r.lookup f) = some v
    rw [beq_eq_false_iff_ne.mpr ne]
    exact q
def fld (tbl : Nat → Option Nat) (fe : En → Out D) : En → Out D := fun ρ => (fe ρ).bind fun d ρ => match d with
  | .ins c ds => (match tbl c with
    | some j => opt ds[j]? ρ
    | none => .er)
  | _ => .er
theorem pf_fld {f : Str} {tbl : Nat → Option Nat} {fe : En → Out D} (k : FldOk X.K T f tbl) (he : PF X T W e fe) (hb : attributeBase e f X.env (eval e X.env) = eval e X.env := by rfl) : PF X T W (.Attribute e f pos) (fld tbl fe) := by
  obtain ⟨t, ht, hp⟩ := he
  refine ⟨_, pe_fld ht hb, fun B F H σ ρ Q w q => hp B F H σ ρ _ w (Post.step q fun d ρ1 F1 H1 v g1 w1 i1 q1 => ?_)⟩
  cases d with
  | ins c ds =>
    dsimp only at q1
    split at q1
    · rename_i j ej
      obtain ⟨d, ed, gd⟩ := opt_post q1
      obtain ⟨a, dx, fs, rfl, ha, hn, l⟩ := i1.insI
      obtain ⟨k1, k2, k3, k4⟩ := k.ok c j ej
      obtain ⟨x, ex, ix⟩ := l.get ed
      exact ⟨a, T.cl c, dx, fs, x, rfl, w1.f _ _ ha, k1, k2, lookup_at (by rw [hn]; exact k4) (by rw [hn]; exact k3) ex, gd F1 H1 x Gw.refl w1 ix⟩
    · exact q1.elim
  | _ => exact q1.elim
/-- self.f of an object that the slot i owns -/
def fldV (tbl : Nat → Option Nat) (i : Nat) : En → Out D := fun ρ => match ρ[i]? with
  | some (some (.oi c ds)) => (match tbl c with
    | some j => opt ds[j]? ρ
    | none => .er)
  | some (some (.im (.ins c ds))) => (match tbl c with
    | some j => opt ds[j]? ρ
    | none => .er)
  | _ => .er
theorem pf_fldV {f : Str} {tbl : Nat → Option Nat} {i : Nat} (k : FldOk X.K T f tbl) (he : PE X e (tVar i)) (hb : attributeBase e f X.env (eval e X.env) = eval e X.env := by rfl) : PF X T W (.Attribute e f pos) (fldV tbl i) := by
  refine ⟨_, pe_fld he hb, fun B F H σ ρ Q w q => ?_⟩
  unfold fldV at q
  split at q
  · rename_i c ds e
    obtain ⟨v, fp, ev, o, _⟩ := w.own e
    split at q
    · rename_i j ej
      obtain ⟨d, ed, gd⟩ := opt_post q
      obtain ⟨a, dx, fs, rfl, _, ha, hn, l⟩ := o.oiI
      obtain ⟨k1, k2, k3, k4⟩ := k.ok c j ej
      obtain ⟨x, ex, ix⟩ := l.get ed
      have hj : j < ds.length := (List.getElem?_eq_some_iff.mp ed).1
      refine ⟨_, ev, a, T.cl c, dx, fs, x, rfl, ha, k1, k2, lookup_at (by rw [hn]; exact k4.sublist (List.take_sublist _ _)) (by rw [hn, List.getElem?_take_of_lt hj]; exact k3) ex, gd F H x Gw.refl w ix⟩
    · exact q.elim
  · rename_i c ds e
    obtain ⟨v, ev, iv⟩ := w.get e
    split at q
    · rename_i j ej
      obtain ⟨d, ed, gd⟩ := opt_post q
      obtain ⟨a, dx, fs, rfl, ha, hn, l⟩ := iv.insI
      obtain ⟨k1, k2, k3, k4⟩ := k.ok c j ej
      obtain ⟨x, ex, ix⟩ := l.get ed
      exact ⟨_, ev, a, T.cl c, dx, fs, x, rfl, w.f _ _ ha, k1, k2, lookup_at (by rw [hn]; exact k4) (by rw [hn]; exact k3) ex, gd F H x Gw.refl w ix⟩
    · exact q.elim
  · exact q.elim

/-! ### views of lists -/
/-- a slot's list as it stands -/
def vw (i : Nat) : En → Out (List D) := fun ρ => match ρ[i]? with
  | some (some (.im (.lst ds))) => .ok ds ρ
  | some (some (.ol ds)) => .ok ds ρ
  | _ => .er
theorem slot_list {K : PySem.W.Frag} {B F H : Hp} {σ : L2.St} {ρ : En} {i : Nat} {ds : List D} (w : Wd K T B F H σ ρ) (h : ρ[i]? = some (some (.im (.lst ds))) ∨ ρ[i]? = some (some (.ol ds))) : ∃ a vs, σ[i]? = some (some (.ref a)) ∧ SqL K H a vs ∧ IsL K T F vs ds := by
  rcases h with h | h
  · obtain ⟨v, ev, iv⟩ := w.get h
    obtain ⟨a, vs, rfl, s, l⟩ := iv.lstI
    exact ⟨a, vs, ev, w.f.seq s, l⟩
  · obtain ⟨v, fp, ev, o, _⟩ := w.own h
    obtain ⟨a, vs, rfl, _, ha, l⟩ := o.olI
    exact ⟨a, vs, ev, SqL.of ha, l⟩
theorem vw_ok {ρ ρ' : En} {i : Nat} {ds : List D} (h : vw i ρ = .ok ds ρ') : ρ' = ρ ∧ (ρ[i]? = some (some (.im (.lst ds))) ∨ ρ[i]? = some (some (.ol ds))) := by
  unfold vw at h
  split at h
  · cases h; exact ⟨rfl, .inl (by assumption)⟩
  · cases h; exact ⟨rfl, .inr (by assumption)⟩
  · cases h
theorem vf_v {i : Nat} (h : PE X e (tVar i)) : VF X T W e (vw i) := by
  refine ⟨_, h, fun B F H σ ρ Q w q => ?_⟩
  cases e' : vw i ρ with
  | ok ds ρ' =>
    obtain ⟨rfl, hs⟩ := vw_ok e'
    rw [e'] at q
    obtain ⟨a, vs, ev, s, l⟩ := slot_list w hs
    exact ⟨_, ev, q F H a vs Gw.refl w s l⟩
  | ex x ρ' => unfold vw at e'; split at e' <;> cases e'
  | er => rw [e'] at q; exact q.elim
def ofL (f : En → Out D) : En → Out (List D) := fun ρ => (f ρ).bind fun d ρ => match d with
  | .lst ds => .ok ds ρ
  | _ => .er
theorem vf_f (h : PF X T W e f) : VF X T W e (ofL f) := by
  obtain ⟨t, ht, hp⟩ := h
  refine ⟨t, ht, fun B F H σ ρ Q w q => hp B F H σ ρ Q w ((PostX.bind q).imp fun d ρ' _ q F' H' v g w' i => ?_)⟩
  cases d with
  | lst ds =>
    obtain ⟨a, vs, rfl, s, l⟩ := i.lstI
    exact q F' H' a vs g w' (w'.f.seq s) l
  | _ => exact q.elim

/-! ### calls of built-ins by values -/
/-- the built-in (or type) f on frozen values -/
structure CF (X : Cx) (T : Ct) (W : WX) (f : Value) (m : List D → En → Out D) : Prop where
  ex : ∃ r, CallR X f r ∧ ∀ (B F H : Hp) (σ : L2.St) (ρ : En) (Q : VK) vs ds, Wd X.K T B F H σ ρ → IsL X.K T F vs ds → Post X.K T W B F σ (Is X.K T) (m ds ρ) Q → r vs H Q
def cl1 (m : List D → En → Out D) (g : En → Out (List D)) : En → Out D := fun ρ => (g ρ).bind m
section
variable {x : Str} {id : String} {m : List D → En → Out D} {g : En → Out (List D)}
theorem pf_callB (k : CF X T W (.builtin id) m) (hg : Gl X x) (hm : X.mg x = none) (hv : bootBuiltins x = some (.builtin id)) (ha : AF X T W (e :: es) g) (hn : x ≠ "__name__" := by decide) (hdb : (x == ("__debug__" : Str)) = false := by decide)
    (he : starEach (e :: es) X.env = (false, eval e X.env) :: starEach es X.env := by rfl) (hpl : (backTo pos (starEach es X.env)).any (·.1) = false := by rfl) : PF X T W (.Call (.Name x p) (e :: es) [] pos) (cl1 m g) := by
  obtain ⟨r, hr, hk⟩ := k
  obtain ⟨t, ht, hp⟩ := ha
  exact ⟨_, pe_callB hr hg hm hv ht hn hdb he hpl, fun B F H σ ρ Q w q => hp B F H σ ρ _ w (Post.step q fun ds ρ1 F1 H1 vs g1 w1 l q1 => hk B F1 H1 σ ρ1 Q vs ds w1 l q1)⟩
theorem pf_callTy (k : CF X T W (.type id) m) (hg : Gl X x) (hm : X.mg x = none) (hv : bootBuiltins x = some (.type id)) (ha : AF X T W (e :: es) g) (hn : x ≠ "__name__" := by decide) (hdb : (x == ("__debug__" : Str)) = false := by decide)
    (he : starEach (e :: es) X.env = (false, eval e X.env) :: starEach es X.env := by rfl) (hpl : (backTo pos (starEach es X.env)).any (·.1) = false := by rfl) : PF X T W (.Call (.Name x p) (e :: es) [] pos) (cl1 m g) := by
  obtain ⟨r, hr, hk⟩ := k
  obtain ⟨t, ht, hp⟩ := ha
  exact ⟨_, pe_callTy hr hg hm hv ht hn hdb he hpl, fun B F H σ ρ Q w q => hp B F H σ ρ _ w (Post.step q fun ds ρ1 F1 H1 vs g1 w1 l q1 => hk B F1 H1 σ ρ1 Q vs ds w1 l q1)⟩
theorem pf_callG (k : CF X T W (.builtin id) m) (hg : Gl X x) (hm : X.mg x = some (.builtin id)) (ha : AF X T W (e :: es) g) (hdb : (x == ("__debug__" : Str)) = false := by decide)
    (he : starEach (e :: es) X.env = (false, eval e X.env) :: starEach es X.env := by rfl) (hpl : (backTo pos (starEach es X.env)).any (·.1) = false := by rfl) : PF X T W (.Call (.Name x p) (e :: es) [] pos) (cl1 m g) := by
  obtain ⟨r, hr, hk⟩ := k
  obtain ⟨t, ht, hp⟩ := ha
  exact ⟨_, pe_callBfun hr hg hm ht hdb he hpl, fun B F H σ ρ Q w q => hp B F H σ ρ _ w (Post.step q fun ds ρ1 F1 H1 vs g1 w1 l q1 => hk B F1 H1 σ ρ1 Q vs ds w1 l q1)⟩
end
/-- a built-in by a function of the values, that changes nothing -/
theorem cf_pure {f : Value} {r : List V → Hp → VK → Prop} {k : List D → Option D} (h : CallR X f r) (hk : ∀ F H vs ds d Q, Same F H → IsL X.K T F vs ds → k ds = some d → (∀ v, Is X.K T F v d → Q v H) → r vs H Q) : CF X T W f (fun ds => opt (k ds)) := by
  refine ⟨r, h, fun B F H σ ρ Q vs ds w l q => ?_⟩
  obtain ⟨d, e, gd⟩ := opt_post q
  exact hk F H vs ds d Q w.f l e fun v i => gd F H v Gw.refl w i
theorem IsL.one {K : PySem.W.Frag} {F : Hp} {vs : List V} {d : D} (l : IsL K T F vs [d]) : ∃ v, vs = [v] ∧ Is K T F v d := by
  cases l with
  | cons h l => cases l; exact ⟨_, rfl, h⟩
theorem IsL.two {K : PySem.W.Frag} {F : Hp} {vs : List V} {d d2 : D} (l : IsL K T F vs [d, d2]) : ∃ v u, vs = [v, u] ∧ Is K T F v d ∧ Is K T F u d2 := by
  cases l with
  | cons h l =>
    obtain ⟨u, rfl, h2⟩ := l.one
    exact ⟨_, _, rfl, h, h2⟩
/-- len -/
def kLen : List D → Option D
  | [.lst ds] => some (.int ds.length)
  | [.tup ds] => some (.int ds.length)
  | [.str s] => if decide (s.length ≤ sizeLine) then some (.int s.length) else none
  | _ => none
theorem cf_len : CF X T W (.builtin "len") (fun ds => opt (kLen ds)) := cf_pure call_len fun F H vs ds d Q g l e q => by
  unfold kLen at e
  split at e
  · cases e
    obtain ⟨v, rfl, i⟩ := l.one
    obtain ⟨a, vs, rfl, s, l'⟩ := i.lstI
    exact ⟨_, vs.length, rfl, .inl ⟨vs, g.seq s, rfl⟩, by rw [l'.length]; exact q _ (.int _)⟩
  · cases e
    obtain ⟨v, rfl, i⟩ := l.one
    obtain ⟨a, vs, rfl, s, l'⟩ := i.tupI
    exact ⟨_, vs.length, rfl, .inr ⟨vs, same_seq g s, rfl⟩, by rw [l'.length]; exact q _ (.int _)⟩
  · split at e
    · rename_i s hz
      cases e
      obtain ⟨v, rfl, i⟩ := l.one
      rw [i.strI]
      exact ⟨_, s.length, rfl, ⟨of_decide_eq_true hz, rfl⟩, q _ (.int _)⟩
    · cases e
  · cases e
/-- len of a list that is looked at -/
def vLen (f : En → Out (List D)) : En → Out D := fun ρ => (f ρ).bind fun ds ρ => .ok (.int ds.length) ρ
theorem pf_lenV {f : En → Out (List D)} {x : Str} (he : VF X T W e f) (hg : Gl X x) (hm : X.mg x = none) (hv : bootBuiltins x = some (.builtin "len")) (hn : x ≠ "__name__" := by decide) (hdb : (x == ("__debug__" : Str)) = false := by decide)
    (hs : starEach [e] X.env = (false, eval e X.env) :: starEach [] X.env := by rfl) (hpl : (backTo pos (starEach [] X.env)).any (·.1) = false := by rfl) : PF X T W (.Call (.Name x p) [e] [] pos) (vLen f) := by
  obtain ⟨t, ht, hp⟩ := he
  refine ⟨_, pe_callB call_len hg hm hv (pa_cons ht pa_nil hs) hn hdb hs hpl, fun B F H σ ρ Q w q => hp B F H σ ρ _ w ((PostX.bind q).imp fun ds ρ1 _ q1 F1 H1 a vs g1 w1 s l => ?_)⟩
  exact ⟨_, vs.length, rfl, .inl ⟨vs, s, rfl⟩, by rw [l.length]; exact q1 F1 H1 _ g1 w1 (.int _)⟩
/-- abs, max, min of two ints, int, gcd -/
def k1 (g : Int → D) : List D → Option D
  | [.int i] => some (g i)
  | _ => none
def k2 (g : Int → Int → D) : List D → Option D
  | [.int i, .int j] => some (g i j)
  | _ => none
theorem cf_abs : CF X T W (.builtin "abs") (fun ds => opt (k1 (fun i => .int (if i < 0 then -i else i)) ds)) := cf_pure call_abs fun F H vs ds d Q g l e q => by
  unfold k1 at e
  split at e
  · cases e
    obtain ⟨v, rfl, i⟩ := l.one
    rw [i.intI]
    exact ⟨_, rfl, q _ (.int _)⟩
  · cases e
theorem cf_max2 (hc : X.calm = true) : CF X T W (.builtin "max") (fun ds => opt (k2 (fun i j => .int (if j > i then j else i)) ds)) := cf_pure (call_max2 hc) fun F H vs ds d Q g l e q => by
  unfold k2 at e
  split at e
  · cases e
    obtain ⟨v, u, rfl, i, j⟩ := l.two
    rw [i.intI, j.intI]
    exact ⟨_, _, rfl, q _ (.int _)⟩
  · cases e
theorem cf_min2 (hc : X.calm = true) : CF X T W (.builtin "min") (fun ds => opt (k2 (fun i j => .int (if j < i then j else i)) ds)) := cf_pure (call_min2 hc) fun F H vs ds d Q g l e q => by
  unfold k2 at e
  split at e
  · cases e
    obtain ⟨v, u, rfl, i, j⟩ := l.two
    rw [i.intI, j.intI]
    exact ⟨_, _, rfl, q _ (.int _)⟩
  · cases e
theorem cf_gcd : CF X T W (.builtin "math.gcd") (fun ds => opt (k2 (fun i j => .int ((Nat.gcd i.natAbs j.natAbs : Nat) : Int)) ds)) := cf_pure cr_gcd fun F H vs ds d Q g l e q => by
  unfold k2 at e
  split at e
  · cases e
    obtain ⟨v, u, rfl, i, j⟩ := l.two
    rw [i.intI, j.intI]
    exact ⟨_, _, rfl, q _ (.int _)⟩
  · cases e
def kInt : List D → Option D
  | [.int i] => some (.int i)
  | [.bl k] => some (.int (if k then 1 else 0))
  | _ => none
theorem cf_int : CF X T W (.type "int") (fun ds => opt (kInt ds)) := cf_pure call_int1 fun F H vs ds d Q g l e q => by
  unfold kInt at e
  split at e
  · cases e
    obtain ⟨v, rfl, i⟩ := l.one
    rw [i.intI]
    exact .inl ⟨_, rfl, q _ (.int _)⟩
  · cases e
    obtain ⟨v, rfl, i⟩ := l.one
    rw [i.blI]
    exact .inr ⟨_, rfl, q _ (.int _)⟩
  · cases e
def kStr : List D → Option D
  | [.int i] => if decide (i.natAbs.log2 < 1920) then some (.str (toString i)) else none
  | _ => none
theorem cf_str : CF X T W (.type "str") (fun ds => opt (kStr ds)) := cf_pure call_str_int fun F H vs ds d Q g l e q => by
  unfold kStr at e
  split at e
  · split at e
    · rename_i h
      cases e
      obtain ⟨v, rfl, i⟩ := l.one
      rw [i.intI]
      exact ⟨_, rfl, of_decide_eq_true h, q _ (.str _)⟩
    · cases e
  · cases e
/-- tuple(xs), list(xs) -/
def kTup : List D → Option D
  | [.lst ds] => some (.tup ds)
  | [.tup ds] => some (.tup ds)
  | _ => none
theorem cf_tuple : CF X T W (.type "tuple") (fun ds => opt (kTup ds)) := by
  refine ⟨_, call_tuple_of, fun B F H σ ρ Q vs ds w l q => ?_⟩
  obtain ⟨d, e, gd⟩ := opt_post q
  unfold kTup at e
  split at e
  · cases e
    obtain ⟨v, rfl, i⟩ := l.one
    obtain ⟨a, vs, rfl, s, l'⟩ := i.lstI
    refine ⟨a, vs, rfl, .inl ⟨w.f.seq s, fun p hp => ?_⟩⟩
    obtain ⟨g2, w2⟩ := w.new (u := .tup vs) hp
    exact gd _ _ _ g2 w2 (.tup (SqT.of upd_same) (l'.mono g2.s))
  · cases e
    obtain ⟨v, rfl, i⟩ := l.one
    obtain ⟨a, vs, rfl, s, l'⟩ := i.tupI
    exact ⟨a, vs, rfl, .inr ⟨same_seq w.f s, gd F H _ Gw.refl w i⟩⟩
  · cases e
/-- tuple of a list that is looked at -/
def vTupO (f : En → Out (List D)) : En → Out D := fun ρ => (f ρ).bind fun ds ρ => .ok (.tup ds) ρ
theorem pf_tupV {f : En → Out (List D)} {x : Str} (he : VF X T W e f) (hg : Gl X x) (hm : X.mg x = none) (hv : bootBuiltins x = some (.type "tuple")) (hn : x ≠ "__name__" := by decide) (hdb : (x == ("__debug__" : Str)) = false := by decide)
    (hs : starEach [e] X.env = (false, eval e X.env) :: starEach [] X.env := by rfl) (hpl : (backTo pos (starEach [] X.env)).any (·.1) = false := by rfl) : PF X T W (.Call (.Name x p) [e] [] pos) (vTupO f) := by
  obtain ⟨t, ht, hp⟩ := he
  refine ⟨_, L2.pe_callTy call_tuple_of hg hm hv (pa_cons ht pa_nil hs) hn hdb hs hpl, fun B F H σ ρ Q w q => hp B F H σ ρ _ w ((PostX.bind q).imp fun ds ρ1 _ q1 F1 H1 a vs g1 w1 s l => ?_)⟩
  refine ⟨a, vs, rfl, .inl ⟨s, fun p hp => ?_⟩⟩
  obtain ⟨g2, w2⟩ := w1.new (u := .tup vs) hp
  exact q1 _ _ _ (g1.trans g2) w2 (.tup (SqT.of upd_same) (l.mono g2.s))
/-- list(xs), xs a list or a tuple -/
def nList (f : En → Out D) : En → Out (List D) := fun ρ => (f ρ).bind fun d ρ => match d with
  | .lst ds => .ok ds ρ
  | .tup ds => .ok ds ρ
  | _ => .er
theorem pn_list {x : Str} (he : PF X T W e f) (hg : Gl X x) (hm : X.mg x = none) (hv : bootBuiltins x = some (.type "list")) (hn : x ≠ "__name__" := by decide) (hdb : (x == ("__debug__" : Str)) = false := by decide)
    (hs : starEach [e] X.env = (false, eval e X.env) :: starEach [] X.env := by rfl) (hpl : (backTo pos (starEach [] X.env)).any (·.1) = false := by rfl) : PN X T W (.Call (.Name x p) [e] [] pos) (nList f) := by
  obtain ⟨t, ht, hp⟩ := he
  refine ⟨_, L2.pe_callTy call_list_of hg hm hv (pa_cons ht pa_nil hs) hn hdb hs hpl, fun B F H σ ρ Q w q => hp B F H σ ρ _ w (PostN.step q fun d ρ1 F1 H1 v g1 w1 i q1 => ?_)⟩
  cases d with
  | lst ds =>
    obtain ⟨a, vs, rfl, s, l⟩ := i.lstI
    exact ⟨a, vs, rfl, .inl (w1.f.seq s), fun p hp => q1 F1 _ p vs Gw.refl (w1.nofree hp).2 (w1.nofree hp).1 (w1.fresh hp) l⟩
  | tup ds =>
    obtain ⟨a, vs, rfl, s, l⟩ := i.tupI
    exact ⟨a, vs, rfl, .inr (same_seq w1.f s), fun p hp => q1 F1 _ p vs Gw.refl (w1.nofree hp).2 (w1.nofree hp).1 (w1.fresh hp) l⟩
  | _ => exact q1.elim
def nCopy (f : En → Out (List D)) : En → Out (List D) := f
theorem pn_listV {f : En → Out (List D)} {x : Str} (he : VF X T W e f) (hg : Gl X x) (hm : X.mg x = none) (hv : bootBuiltins x = some (.type "list")) (hn : x ≠ "__name__" := by decide) (hdb : (x == ("__debug__" : Str)) = false := by decide)
    (hs : starEach [e] X.env = (false, eval e X.env) :: starEach [] X.env := by rfl) (hpl : (backTo pos (starEach [] X.env)).any (·.1) = false := by rfl) : PN X T W (.Call (.Name x p) [e] [] pos) f := by
  obtain ⟨t, ht, hp⟩ := he
  refine ⟨_, L2.pe_callTy call_list_of hg hm hv (pa_cons ht pa_nil hs) hn hdb hs hpl, fun B F H σ ρ Q w q => hp B F H σ ρ _ w (PostX.imp q fun ds ρ1 _ q1 F1 H1 a vs g1 w1 s l => ?_)⟩
  exact ⟨a, vs, rfl, .inl s, fun p hp => q1 F1 _ p vs g1 (w1.nofree hp).2 (w1.nofree hp).1 (w1.fresh hp) l⟩

/-! ### items -/
theorem atI_is {K : PySem.W.Frag} {F : Hp} {vs : List V} {ds : List D} {i : Int} {d : D} (l : IsL K T F vs ds) (h : atI ds i = some d) : ∃ v, atI vs i = some v ∧ Is K T F v d := by
  unfold atI at h ⊢
  rw [l.length]
  cases e : ixN ds.length i with
  | none => rw [e] at h; cases h
  | some j =>
    rw [e] at h
    exact l.get h
/-- an item of a list, a tuple, a text -/
def itm : D → D → Option D
  | .lst ds, .int i => atI ds i
  | .tup ds, .int i => atI ds i
  | .str s, .int i => if decide (s.length ≤ sizeLine) then (atI s.cps.toList i).map fun c => .str ⟨#[c]⟩ else none
  | _, _ => none
def ix (fa fb : En → Out D) : En → Out D := fun ρ => (fa ρ).bind fun x ρ => (fb ρ).bind fun y ρ => opt (itm x y) ρ
theorem pf_ix (ha : PF X T W a fa) (hb : PF X T W b fb) (hs : PlainIx b := by intro _ _; rfl) : PF X T W (.Subscript a b pos) (ix fa fb) := by
  obtain ⟨t, ht, hp⟩ := ha
  obtain ⟨u, hu, hq⟩ := hb
  refine ⟨_, pe_ix ix_seq ht hu hs, fun B F H σ ρ Q w q => hp B F H σ ρ _ w (Post.step q fun x ρ1 F1 H1 v1 g1 w1 i1 q1 => ?_)⟩
  refine hq B F1 H1 σ ρ1 _ w1 (Post.step q1 fun y ρ2 F2 H2 v2 g2 w2 i2 q2 => ?_)
  obtain ⟨d, e, gd⟩ := opt_post q2
  unfold itm at e
  split at e
  · obtain ⟨a, vs, rfl, s, l⟩ := (i1.mono g2.s).lstI
    obtain ⟨v, ev, iv⟩ := atI_is l e
    exact .inl ⟨a, vs, _, v, rfl, i2.intI, w2.f.seq s, ev, gd F2 H2 v Gw.refl w2 iv⟩
  · obtain ⟨a, vs, rfl, s, l⟩ := (i1.mono g2.s).tupI
    obtain ⟨v, ev, iv⟩ := atI_is l e
    exact .inr (.inl ⟨a, vs, _, v, rfl, i2.intI, same_seq w2.f s, ev, gd F2 H2 v Gw.refl w2 iv⟩)
  · split at e
    · rename_i hz
      obtain ⟨c, ec, rfl⟩ := Option.map_eq_some_iff.mp e
      exact .inr (.inr ⟨_, _, c, i1.strI, i2.intI, of_decide_eq_true hz, ec, gd F2 H2 _ Gw.refl w2 (.str _)⟩)
    · cases e
  · cases e
/-- an item of a slot's list -/
def ixV (i : Nat) (fb : En → Out D) : En → Out D := fun ρ => (vw i ρ).bind fun _ ρ => (fb ρ).bind fun y ρ => (vw i ρ).bind fun ds ρ => match y with
  | .int k => opt (atI ds k) ρ
  | _ => .er
theorem vw_bind {α : Type} {K : PySem.W.Frag} {B F : Hp} {σ : L2.St} {ρ : En} {i : Nat} {k : List D → En → Out α} {g : α → En → Prop} (q : PostX K T W B F σ g ((vw i ρ).bind k)) :
    ∃ ds, (ρ[i]? = some (some (.im (.lst ds))) ∨ ρ[i]? = some (some (.ol ds))) ∧ PostX K T W B F σ g (k ds ρ) := by
  cases e : vw i ρ with
  | ok ds ρ' =>
    obtain ⟨rfl, hs⟩ := vw_ok e
    rw [e] at q
    exact ⟨ds, hs, q⟩
  | ex x ρ' => unfold vw at e; split at e <;> cases e
  | er => rw [e] at q; exact q.elim
theorem pf_ixV {i : Nat} (ha : PE X a (tVar i)) (hb : PF X T W b fb) (hs : PlainIx b := by intro _ _; rfl) : PF X T W (.Subscript a b pos) (ixV i fb) := by
  obtain ⟨u, hu, hq⟩ := hb
  refine ⟨_, pe_ix ix_list ha hu hs, fun B F H σ ρ Q w q => ?_⟩
  obtain ⟨ds0, hs0, q0⟩ := vw_bind q
  obtain ⟨p, vs0, ev, _, _⟩ := slot_list w hs0
  refine ⟨_, ev, hq B F H σ ρ _ w (Post.step q0 fun y ρ1 F1 H1 v1 g1 w1 i1 q1 => ?_)⟩
  obtain ⟨ds, hs1, q1⟩ := vw_bind q1
  obtain ⟨p', vs, ev', s, l⟩ := slot_list w1 hs1
  rw [ev] at ev'
  cases ev'
  cases y with
  | int k =>
    obtain ⟨d, e, gd⟩ := opt_post q1
    obtain ⟨x, ex, ix⟩ := atI_is l e
    exact ⟨p, vs, k, x, rfl, i1.intI, s, ex, gd F1 H1 x Gw.refl w1 ix⟩
  | _ => exact q1.elim

/-! ### slices -/
/-- a slice's part -/
structure SF (X : Cx) (T : Ct) (W : WX) (e : Option Expr) (f : En → Out (Option Int)) : Prop where
  ex : ∃ t, PO X e t ∧ ∀ (B F H : Hp) (σ : L2.St) (ρ : En) (Q : Option Int → Hp → Prop), Wd X.K T B F H σ ρ → Post X.K T W B F σ (fun _ (b a : Option Int) => b = a) (f ρ) Q → t σ H Q
def noP : En → Out (Option Int) := fun ρ => .ok none ρ
def isP (f : En → Out D) : En → Out (Option Int) := fun ρ => (f ρ).bind fun d ρ => match d with
  | .int i => .ok (some i) ρ
  | _ => .er
theorem sf_none : SF X T W none noP := ⟨_, po_none, fun B F H σ ρ Q w q => q F H none Gw.refl w rfl⟩
theorem sf_some (h : PF X T W e f) : SF X T W (some e) (isP f) := by
  obtain ⟨t, ht, hp⟩ := h
  refine ⟨_, po_some ht, fun B F H σ ρ Q w q => hp B F H σ ρ _ w (Post.step q fun d ρ1 F1 H1 v g1 w1 i1 q1 => ?_)⟩
  cases d with
  | int k => exact ⟨k, i1.intI, q1 F1 H1 _ Gw.refl w1 rfl⟩
  | _ => exact q1.elim
def cutD (ds : List D) (lo hi : Option Int) : List D := (ds.drop (HT.sIx ds.length 0 lo)).take (HT.sIx ds.length ds.length hi - HT.sIx ds.length 0 lo)
theorem cut_is {K : PySem.W.Frag} {F : Hp} {vs : List V} {ds : List D} (l : IsL K T F vs ds) (lo hi : Option Int) : IsL K T F (cutV vs lo hi) (cutD ds lo hi) := by
  unfold cutV cutD
  rw [l.length]
  exact (l.drop _).take _
variable {lo hi : Option Expr} {fl fh : En → Out (Option Int)}
/-- a list's slice: a new list -/
def nSl (f : En → Out D) (fl fh : En → Out (Option Int)) : En → Out (List D) := fun ρ => (f ρ).bind fun d ρ => (fl ρ).bind fun lo ρ => (fh ρ).bind fun hi ρ => match d with
  | .lst ds => .ok (cutD ds lo hi) ρ
  | _ => .er
theorem pn_sl (he : PF X T W e f) (hl : SF X T W lo fl) (hh : SF X T W hi fh) : PN X T W (.Subscript e (.Slice lo hi none p2) pos) (nSl f fl fh) := by
  obtain ⟨t, ht, hp⟩ := he
  obtain ⟨u, hu, hq⟩ := hl
  obtain ⟨z, hz, hr⟩ := hh
  refine ⟨_, pe_slice sl_list ht hu hz, fun B F H σ ρ Q w q => hp B F H σ ρ _ w (PostN.step q fun d ρ1 F1 H1 v1 g1 w1 i1 q1 => ?_)⟩
  refine hq B F1 H1 σ ρ1 _ w1 (PostN.step q1 fun l ρ2 F2 H2 l' g2 w2 e2 q2 => ?_)
  cases e2
  refine hr B F2 H2 σ ρ2 _ w2 (PostN.step q2 fun h ρ3 F3 H3 h' g3 w3 e3 q3 => ?_)
  cases e3
  cases d with
  | lst ds =>
    obtain ⟨a, vs, rfl, s, ls⟩ := ((i1.mono g2.s).mono g3.s).lstI
    exact ⟨a, vs, rfl, w3.f.seq s, fun p hp => q3 F3 _ p _ Gw.refl (w3.nofree hp).2 (w3.nofree hp).1 (w3.fresh hp) (cut_is ls _ _)⟩
  | _ => exact q3.elim
/-- a slice of a slot's list -/
def nSlV (i : Nat) (fl fh : En → Out (Option Int)) : En → Out (List D) := fun ρ => (vw i ρ).bind fun _ ρ => (fl ρ).bind fun lo ρ => (fh ρ).bind fun hi ρ => (vw i ρ).bind fun ds ρ => .ok (cutD ds lo hi) ρ
theorem pn_slV {i : Nat} (ha : PE X e (tVar i)) (hl : SF X T W lo fl) (hh : SF X T W hi fh) : PN X T W (.Subscript e (.Slice lo hi none p2) pos) (nSlV i fl fh) := by
  obtain ⟨u, hu, hq⟩ := hl
  obtain ⟨z, hz, hr⟩ := hh
  refine ⟨_, pe_slice sl_list ha hu hz, fun B F H σ ρ Q w q => ?_⟩
  obtain ⟨ds0, hs0, q0⟩ := vw_bind q
  obtain ⟨p, vs0, ev, _, _⟩ := slot_list w hs0
  refine ⟨_, ev, hq B F H σ ρ _ w (PostN.step q0 fun l ρ2 F2 H2 l' g2 w2 e2 q2 => ?_)⟩
  cases e2
  refine hr B F2 H2 σ ρ2 _ w2 (PostN.step q2 fun h ρ3 F3 H3 h' g3 w3 e3 q3 => ?_)
  cases e3
  obtain ⟨ds, hs1, q4⟩ := vw_bind q3
  obtain ⟨p', vs, ev', s, ls⟩ := slot_list w3 hs1
  rw [ev] at ev'
  cases ev'
  exact ⟨p, vs, rfl, s, fun p hp => q4 F3 _ p _ Gw.refl (w3.nofree hp).2 (w3.nofree hp).1 (w3.fresh hp) (cut_is ls _ _)⟩
/-- a tuple's slice; a text's -/
def slT (d : D) (lo hi : Option Int) : Option D := match d with
  | .tup ds => some (.tup (cutD ds lo hi))
  | .str s => if decide (s.length ≤ sizeLine) then some (.str (cutS s lo hi)) else none
  | _ => none
def sl3 (f : En → Out D) (fl fh : En → Out (Option Int)) : En → Out D := fun ρ => (f ρ).bind fun d ρ => (fl ρ).bind fun lo ρ => (fh ρ).bind fun hi ρ => opt (slT d lo hi) ρ
theorem pf_sl (he : PF X T W e f) (hl : SF X T W lo fl) (hh : SF X T W hi fh) : PF X T W (.Subscript e (.Slice lo hi none p2) pos) (sl3 f fl fh) := by
  obtain ⟨t, ht, hp⟩ := he
  obtain ⟨u, hu, hq⟩ := hl
  obtain ⟨z, hz, hr⟩ := hh
  refine ⟨_, pe_slice (sl_tupA.or sl_str) ht hu hz, fun B F H σ ρ Q w q => hp B F H σ ρ _ w (Post.step q fun d ρ1 F1 H1 v1 g1 w1 i1 q1 => ?_)⟩
  refine hq B F1 H1 σ ρ1 _ w1 (Post.step q1 fun l ρ2 F2 H2 l' g2 w2 e2 q2 => ?_)
  cases e2
  refine hr B F2 H2 σ ρ2 _ w2 (Post.step q2 fun h ρ3 F3 H3 h' g3 w3 e3 q3 => ?_)
  cases e3
  obtain ⟨r, er, gd⟩ := opt_post q3
  unfold slT at er
  split at er
  · cases er
    obtain ⟨a, vs, rfl, s, ls⟩ := ((i1.mono g2.s).mono g3.s).tupI
    refine .inl ⟨a, vs, rfl, same_seq w3.f s, fun hn => ?_, fun _ p hp => ?_⟩
    · refine gd _ _ _ Gw.refl w3 (.tup s ?_)
      have e : cutV vs l h = vs := by
        unfold cutV
        rw [hn.1, hn.2]
        simp
      have z := cut_is ls l h
      rw [e] at z
      exact z
    · obtain ⟨g4, w4⟩ := w3.new (u := .tup (cutV vs l h)) hp
      exact gd _ _ _ g4 w4 (.tup (SqT.of upd_same) ((cut_is ls _ _).mono g4.s))
  · split at er
    · rename_i hz
      cases er
      exact .inr ⟨_, (i1).strI, of_decide_eq_true hz, gd F3 H3 _ Gw.refl w3 (.str _)⟩
    · cases er
  · cases er

/-! ### lists put together -/
/-- xs + ys, both tracked lists: new ones, or slots -/
def nCat (f g : En → Out (List D)) : En → Out (List D) := fun ρ => (f ρ).bind fun xs ρ => (g ρ).bind fun ys ρ => if decide (xs.length + ys.length ≤ sizeLine) then .ok (xs ++ ys) ρ else .er
theorem pn_cat {f g : En → Out (List D)} (ha : PN X T W a f) (hb : PN X T W b g) : PN X T W (.BinOp a .Add b pos) (nCat f g) := by
  obtain ⟨t, ht, hp⟩ := ha
  obtain ⟨u, hu, hq⟩ := hb
  refine ⟨_, pe_op op_cat ht hu, fun B F H σ ρ Q w q => hp B F H σ ρ _ w ((PostX.bind q).imp fun xs ρ1 _ q1 F1 H1 p vs g1 hb1 hf1 w1 l1 => ?_)⟩
  refine hq (upd B p (.lst vs)) F1 H1 σ ρ1 _ w1 ?_
  have q1' : PostX X.K T W B F1 σ (fun ys ρ => PostX X.K T W B F1 σ (goodN X.K T B F1 σ Q) (if decide (xs.length + ys.length ≤ sizeLine) then .ok (xs ++ ys) ρ else .er)) (g ρ1) := PostX.bind (PostN.gw q1 g1)
  have sb : Same B (upd B p (.lst vs)) := same_upd hb1
  cases eg : g ρ1 with
  | ok ys ρ2 =>
    rw [eg] at q1'
    intro F2 H2 p2 ws g2 hb2 hf2 w2 l2
    have q2 : PostX X.K T W B F1 σ (goodN X.K T B F1 σ Q) (if decide (xs.length + ys.length ≤ sizeLine) then .ok (xs ++ ys) ρ2 else .er) := q1'
    split at q2
    · rename_i hz
      have hz := of_decide_eq_true hz
      have np : p2 ≠ p := fun z => by subst z; rw [upd_same] at hb2; cases hb2
      have hb2' : B p2 = none := sb.free hb2
      have hp1 : H2 p = some (.lst vs) := w2.b _ _ (by rw [upd_ne (Ne.symm np)]; exact upd_same)
      have hp2 : H2 p2 = some (.lst ws) := w2.b _ _ upd_same
      refine ⟨p, p2, vs, ws, rfl, rfl, hp1, hp2, by rw [l1.length, l2.length]; exact hz, fun n hn => ?_⟩
      have w3 : Wd X.K T B F2 H2 σ ρ2 := w2.less (sb.trans (same_upd hb2))
      exact q2 F2 _ n _ (g2.less sb) (w3.nofree hn).2 (w3.nofree hn).1 (w3.fresh hn) ((l1.mono g2.s).append l2)
    · exact q2.elim
  | ex x ρ2 =>
    rw [eg] at q1'
    exact fun F2 H2 c dd g2 w2 e2 => q1' F2 H2 c dd (g2.less sb) (w2.less sb) e2
  | er => rw [eg] at q1'; exact q1'.elim
/-- xs * n -/
def nRep (f : En → Out (List D)) (g : En → Out D) : En → Out (List D) := fun ρ => (f ρ).bind fun xs ρ => (g ρ).bind fun y ρ => match y with
  | .int k => if decide (-(2 ^ 63) ≤ k ∧ k < 2 ^ 63 ∧ xs.length * k.toNat ≤ sizeLine) then .ok (List.replicate k.toNat xs).flatten ρ else .er
  | _ => .er
theorem pn_rep {f : En → Out (List D)} (ha : PN X T W a f) (hb : PF X T W b fb) : PN X T W (.BinOp a .Mult b pos) (nRep f fb) := by
  obtain ⟨t, ht, hp⟩ := ha
  obtain ⟨u, hu, hq⟩ := hb
  refine ⟨_, pe_op op_rep ht hu, fun B F H σ ρ Q w q => hp B F H σ ρ _ w ((PostX.bind q).imp fun xs ρ1 _ q1 F1 H1 p vs g1 hb1 hf1 w1 l1 => ?_)⟩
  refine hq (upd B p (.lst vs)) F1 H1 σ ρ1 _ w1 ?_
  have q1' := PostX.bind (PostN.gw q1 g1)
  have sb : Same B (upd B p (.lst vs)) := same_upd hb1
  cases eg : fb ρ1 with
  | ok y ρ2 =>
    rw [eg] at q1'
    intro F2 H2 v g2 w2 i2
    have hp1 : H2 p = some (.lst vs) := w2.b _ _ upd_same
    have w3 : Wd X.K T B F2 H2 σ ρ2 := w2.less sb
    cases y with
    | int k =>
      have q2 : PostX X.K T W B F1 σ (goodN X.K T B F1 σ Q) (if decide (-(2 ^ 63) ≤ k ∧ k < 2 ^ 63 ∧ xs.length * k.toNat ≤ sizeLine) then .ok (List.replicate k.toNat xs).flatten ρ2 else .er) := q1'
      split at q2
      · rename_i hz
        obtain ⟨z1, z2, z3⟩ := of_decide_eq_true hz
        refine ⟨p, k, vs, rfl, i2.intI, hp1, z1, z2, by rw [l1.length]; exact z3, fun n hn => ?_⟩
        exact q2 F2 _ n _ (g2.less sb) (w3.nofree hn).2 (w3.nofree hn).1 (w3.fresh hn) ((l1.mono g2.s).rep _)
      · exact q2.elim
    | _ => exact (show False from q1').elim
  | ex x ρ2 =>
    rw [eg] at q1'
    exact fun F2 H2 c dd g2 w2 e2 => q1' F2 H2 c dd (g2.less sb) (w2.less sb) e2
  | er => rw [eg] at q1'; exact (show False from q1').elim
end
end Ce
namespace Ce
open PySem PySem.Spec PyProof.Rows L2 Ce

/-! ### what a value does when it is called, at the caller's slots -/
abbrev R3 := L2.St → List V → Hp → VK → Prop
def CalR (X : Cx) (f : Value) (r : R3) : Prop := ∀ (pins : List (Addr × Obj)) (s : Shared) (σ : L2.St) (H : Hp) (us : List Value) (vs : List V) (Q : VK),
  Inv X pins σ H s → Vals vs us → r σ vs H Q → wpAny (model X.prog X.w) X.A (call f us) (EP X pins σ Q) X.xe s
/-- .. with keywords named ks -/
def CalK (X : Cx) (f : Value) (ks : List Str) (r : L2.St → List V → List V → Hp → VK → Prop) : Prop := ∀ (pins : List (Addr × Obj)) (s : Shared) (σ : L2.St) (H : Hp) (us ws : List Value) (vs zs : List V) (Q : VK),
  Inv X pins σ H s → Vals vs us → Vals zs ws → r σ vs zs H Q → wpAny (model X.prog X.w) X.A (call f us (ks.zip ws)) (EP X pins σ Q) X.xe s

section
variable {X : Cx} {CX : CXT} {k n : Nat} {f C : Addr} {fd : FuncData} {ps ks : List Str} {sp : Sp} {dvs : List V} {ds : List Value} {E : L2.St → XK} {g : List Value → List Value → List Value} {gV : List V → List V → List V}
theorem cal_fn (F : FnOk X.prog X.w X.K X.mg X.base CX k f fd ps sp) (hr : Room k X.A) (hb : Binds X.K fd ps ds) (hd : Vals dvs ds) (hx : ∀ σ, PassesAt CX X σ (E σ)) : CalR X (.ref f) (fun σ vs H Q => sp (vs ++ dvs) H Q (E σ)) :=
  fun _ _ σ _ _ _ _ I r q => run_fnSD F hr hb hd (hx σ) I r q
/-- how a call ends -/
theorem cal_end {σ : L2.St} {H : Hp} {s s' : Shared} {pins : List (Addr × Obj)} {Q : VK} {r : Result} (hx : PassesAt CX X σ (E σ)) (I : Inv X pins σ H s) (hq : CR CX X.stack X.prog X.w H s Q (E σ) r s') :
    match r with | .ok (.ret u) => EP X pins σ Q u s' | .ok _ => False | .error e => X.xe e s' := by
  cases r with
  | error e => exact hx pins H s e s' I hq
  | ok fl =>
    cases fl with
    | ret u => exact I.after hq
    | next => exact hq
    | brk => exact hq
    | cont => exact hq
theorem cal_fnK (F : FnOk X.prog X.w X.K X.mg X.base CX k f fd ps sp) (hr : Room k X.A) (hb : KBn X.K fd ps n ks g gV) (hx : ∀ σ, PassesAt CX X σ (E σ)) :
    CalK X (.ref f) ks (fun σ vs zs H Q => vs.length = n ∧ zs.length = ks.length ∧ sp (gV vs zs) H Q (E σ)) := by
  intro pins s σ H us ws vs zs Q I r rz ⟨l1, l2, q⟩
  have b := hb.to s us ws I.kIn (r.length ▸ l1) (rz.length ▸ l2)
  refine wpAny_call (codeAny_mono (F.run X.A X.stack s H ⟨us, ks.zip ws⟩ (g us ws) (gV vs zs) Q (E σ) hr I.env0 b (hb.rel r rz) q) fun r s' hq => ?_)
  have z := cal_end (hx σ) I hq
  revert z
  cases r with
  | error e => exact id
  | ok fl => cases fl <;> exact id
/-- a new instance, then its __init__ -/
def rMake (C : Addr) (sp : Sp) (E : L2.St → XK) (f : List V → List V) : R3 := fun σ vs H Q => ∀ x dx, H x = none → H dx = none → dx ≠ x →
  sp (.ref x :: f vs) (upd (upd H dx (.own x)) x (.ins C dx [])) (fun v H2 => v = .non ∧ Q (.ref x) H2) (E σ)
theorem cal_make (M : Mk X.K C f) (F : FnOk X.prog X.w X.K X.mg X.base CX k f fd ps sp) (hr : Room (k + 1) X.A) (hb : Binds X.K fd ps ds) (hd : Vals dvs ds) (hx : ∀ σ, PassesAt CX X σ (E σ)) : CalR X (.ref C) (rMake C sp E fun vs => vs ++ dvs) := by
  intro pins s σ H us vs Q I r q
  have q0 := q (s.heap.objs.size + 1) s.heap.objs.size (I.hok.fresh (Nat.le_succ _)) (I.hok.fresh (Nat.le_refl _)) (Nat.ne_of_lt (Nat.lt_succ_self _))
  have J := Inv.made (C := C) I
  have rr : Vals (V.ref (s.heap.objs.size + 1) :: (vs ++ dvs)) (Value.ref (s.heap.objs.size + 1) :: (us ++ ds)) := .cons rfl (r.append hd)
  have b := hb _ (Value.ref (s.heap.objs.size + 1) :: us) J.kIn (rr.length.symm.trans (F.len _ _ _ _ q0))
  have run := F.run _ X.stack _ _ ⟨Value.ref (s.heap.objs.size + 1) :: us, []⟩ (Value.ref (s.heap.objs.size + 1) :: (us ++ ds)) _ _ (E σ) (hr.make C us []) (J.env0.make C us []) b rr q0
  refine wpAny_call (make_map (f := f) I.kIn M.makes M.init (beq_iff_eq.mp M.fn) (codeAny_mono run fun r s' hq => ?_))
  have z := cal_end (hx σ) J hq
  cases r with
  | error e => exact z
  | ok fl =>
    cases fl with
    | ret u =>
      obtain ⟨v, H', I3, rv, ev, q3⟩ := z
      subst ev
      exact ⟨rv, .ref (s.heap.objs.size + 1), H', I3, rfl, q3⟩
    | next => exact z.elim
    | brk => exact z.elim
    | cont => exact z.elim
theorem cal_makeK (M : Mk X.K C f) (F : FnOk X.prog X.w X.K X.mg X.base CX k f fd ps sp) (hr : Room (k + 1) X.A) (hb : KBn X.K fd ps (n + 1) ks g gV) (hx : ∀ σ, PassesAt CX X σ (E σ)) :
    CalK X (.ref C) ks (fun σ vs zs H Q => vs.length = n ∧ zs.length = ks.length ∧ ∀ x dx, H x = none → H dx = none → dx ≠ x →
      sp (gV (.ref x :: vs) zs) (upd (upd H dx (.own x)) x (.ins C dx [])) (fun v H2 => v = .non ∧ Q (.ref x) H2) (E σ)) := by
  intro pins s σ H us ws vs zs Q I r rz ⟨l1, l2, q⟩
  have q0 := q (s.heap.objs.size + 1) s.heap.objs.size (I.hok.fresh (Nat.le_succ _)) (I.hok.fresh (Nat.le_refl _)) (Nat.ne_of_lt (Nat.lt_succ_self _))
  have J := Inv.made (C := C) I
  have r1 : Vals (V.ref (s.heap.objs.size + 1) :: vs) (Value.ref (s.heap.objs.size + 1) :: us) := .cons rfl r
  have b := hb.to _ (Value.ref (s.heap.objs.size + 1) :: us) ws J.kIn (by rw [← r1.length, List.length_cons, l1]) (rz.length ▸ l2)
  have run := F.run _ X.stack _ _ ⟨Value.ref (s.heap.objs.size + 1) :: us, ks.zip ws⟩ _ _ _ (E σ) (hr.make C us (ks.zip ws)) (J.env0.make C us (ks.zip ws)) b (hb.rel r1 rz) q0
  refine wpAny_call (make_map (f := f) I.kIn M.makes M.init (beq_iff_eq.mp M.fn) (codeAny_mono run fun r s' hq => ?_))
  have z := cal_end (hx σ) J hq
  cases r with
  | error e => exact z
  | ok fl =>
    cases fl with
    | ret u =>
      obtain ⟨v, H', I3, rv, ev, q3⟩ := z
      subst ev
      exact ⟨rv, .ref (s.heap.objs.size + 1), H', I3, rfl, q3⟩
    | next => exact z.elim
    | brk => exact z.elim
    | cont => exact z.elim
end

/-! ### calls as expressions -/
section
variable {X : Cx} {r : R3} {x m : Str} {u : Value} {p pos apos : Pos} {e o : Expr} {es : List Expr} {kws : List Keyword} {t tk : TA} {ta : TE}
def tCl (r : R3) (t : TA) : TE := fun σ H Q => t σ H fun vs H1 => r σ vs H1 Q
/-- x(e, ..), x a module's name for u -/
theorem pe_nm (c : CalR X u r) (hg : Gl X x) (hm : X.mg x = some u) (hk : PySem.W.keepIn X.K u = true) (ha : PA X (e :: es) t) (hdb : (x == ("__debug__" : Str)) = false := by decide)
    (he : starEach (e :: es) X.env = (false, eval e X.env) :: starEach es X.env := by rfl) (hpl : (backTo pos (starEach es X.env)).any (·.1) = false := by rfl) : PE X (.Call (.Name x p) (e :: es) [] pos) (tCl r t) :=
  ⟨fun pins s σ H Q I h => wpAny_Call_Name_kw (ld_glob I hg hm
    (PySem.W.callWith_K (h₀ := X.base) I.ok.mod.kin hk (thn (ha.run pos pins s σ H _ I h) fun us s1 ⟨vs, H1, I1, r1, q⟩ => ⟨I1.kIn, c pins s1 σ H1 us vs Q I1 r1 q⟩) he hpl) hdb)⟩
theorem pe_nm0 (c : CalR X u r) (hg : Gl X x) (hm : X.mg x = some u) (hk : PySem.W.keepIn X.K u = true) (hdb : (x == ("__debug__" : Str)) = false := by decide) : PE X (.Call (.Name x p) [] [] pos) (tCl r tNil) :=
  ⟨fun pins s σ H Q I h => wpAny_Call_Name_kw (ld_glob I hg hm (PySem.W.callWith_K0 I.kIn hk (c pins s σ H [] [] Q I .nil h)) hdb)⟩
/-- x(e, .., k = v, ..) -/
def tClK (r : L2.St → List V → List V → Hp → VK → Prop) (t tk : TA) : TE := fun σ H Q => t σ H fun vs H1 => tk σ H1 fun zs H2 => r σ vs zs H2 Q
theorem pe_nmK {ks : List Str} {r : L2.St → List V → List V → Hp → VK → Prop} (c : CalK X u ks r) (hg : Gl X x) (hm : X.mg x = some u) (hk : PySem.W.keepIn X.K u = true) (ha : PA X (e :: es) t) (hkw : PK X kws tk)
    (hall : (backToKw pos (keywordEach kws X.env)).all (·.1.isSome) = true := by rfl) (hks : (backToKw pos (keywordEach kws X.env)).filterMap (·.1) = ks := by rfl) (hdb : (x == ("__debug__" : Str)) = false := by decide)
    (he : starEach (e :: es) X.env = (false, eval e X.env) :: starEach es X.env := by rfl) (hpl : ((backTo pos (starEach (e :: es) X.env)).any (·.1) || (backToKw pos (keywordEach kws X.env)).any (·.1.isNone)) = false := by rfl) :
    PE X (.Call (.Name x p) (e :: es) kws pos) (tClK r t tk) := by
  refine ⟨fun pins s σ H Q I h => wpAny_Call_Name_kw (ld_glob I hg hm ?_ hdb)⟩
  refine PySem.W.callWith_KW (h₀ := X.base) I.ok.mod.kin hk hall (thn (ha.run pos pins s σ H _ I h) fun us s1 ⟨vs, H1, I1, r1, q⟩ => ?_) hpl he
  refine thn (hkw.run pos pins s1 σ H1 _ I1 q) fun ws s2 ⟨zs, H2, I2, rz, q2⟩ => ⟨I2.kIn, ?_⟩
  rw [hks]
  exact c pins s2 σ H2 us ws vs zs Q I2 r1 rz q2
/-- o.m(..), o an instance of the class at C: the method at f gets o first -/
def tMt (C : Addr) (m : Str) (r : R3) (ta : TE) (t : TA) : TE := fun σ H Q => ta σ H fun x H1 => ∃ a dx fs, x = .ref a ∧ H1 a = some (.ins C dx fs) ∧ fs.lookup m = none ∧ t σ H1 fun vs H2 => r σ (x :: vs) H2 Q
variable {C f : Addr} {pl : Sem Bool}
theorem pe_mt (he : PE X o ta) (c : Cls X.K C) (hm : Meth X.K C m f) (cl : CalR X (.ref f) r) (ha : PA X (e :: es) t)
    (hst : starEach (e :: es) X.env = (false, eval e X.env) :: starEach es X.env := by rfl) (hpl : (backTo pos (starEach es X.env)).any (·.1) = false := by rfl)
    (ht : eval (.Call (.Attribute o m apos) (e :: es) [] pos) X.env = (do
      let ov ← eval o X.env
      standAt apos.atName
      let (f, first) ← holding [ov] (getMethod ov m pl)
      callWith pos f first (backTo pos (starEach (e :: es) X.env)) (backToKw pos (keywordEach [] X.env))) := by rfl) : PE X (.Call (.Attribute o m apos) (e :: es) [] pos) (tMt C m r ta t) := by
  refine ⟨fun pins s σ H Q I h => PySem.W.methodCall_KW (pl := pl) (thn (he.run pins s σ H _ I h) fun u s1 ⟨x, H1, I1, rx, a, dx, fs, ex, ea, l, q⟩ => ?_) ht⟩
  subst ex
  obtain rfl : u = Value.ref a := rx
  exact getmeth_ok I1 ea c hm l (PySem.W.callWith_K (first := [.ref a]) (h₀ := X.base) I.ok.mod.kin hm.kp
    (thn (ha.run pos pins s1 σ H1 _ I1 q) fun us s2 ⟨vs, H2, I2, r2, q2⟩ => ⟨I2.kIn, cl pins s2 σ H2 (.ref a :: us) (.ref a :: vs) Q I2 (.cons rfl r2) q2⟩) hst hpl)
theorem pe_mt0 (he : PE X o ta) (c : Cls X.K C) (hm : Meth X.K C m f) (cl : CalR X (.ref f) r)
    (ht : eval (.Call (.Attribute o m apos) [] [] pos) X.env = (do
      let ov ← eval o X.env
      standAt apos.atName
      let (f, first) ← holding [ov] (getMethod ov m pl)
      callWith pos f first (backTo pos (starEach [] X.env)) (backToKw pos (keywordEach [] X.env))) := by rfl) : PE X (.Call (.Attribute o m apos) [] [] pos) (tMt C m r ta tNil) := by
  refine ⟨fun pins s σ H Q I h => PySem.W.methodCall_KW (pl := pl) (thn (he.run pins s σ H _ I h) fun u s1 ⟨x, H1, I1, rx, a, dx, fs, ex, ea, l, q⟩ => ?_) ht⟩
  subst ex
  obtain rfl : u = Value.ref a := rx
  exact getmeth_ok I1 ea c hm l (PySem.W.callWith_K0 (first := [.ref a]) I1.kIn hm.kp (cl pins s1 σ H1 [.ref a] [.ref a] Q I1 (.cons rfl .nil) q))
end

/-! ### the promise of a def: it runs as m says -/
def spM (K : PySem.W.Frag) (T : Ct) (n : Nat) (m : En → Out D) : Sp := fun vs H Q E => vs.length = n ∧ ∃ B F ρ, Wd K T B F H (vs.map some) ρ ∧ Post K T (fun c dd _ H' => E c dd H') B F (vs.map some) (Is K T) (m ρ) Q
/-- m on frozen values, at slots that stay -/
def onD (m : En → Out D) (ds : List D) (ρ : En) : Out D := match m (ds.map fun d => some (.im d)) with
  | .ok d _ => .ok d ρ
  | .ex x _ => .ex x ρ
  | .er => .er
section
variable {K : PySem.W.Frag} {T : Ct} {W : WX} {B B' F F' F2 H H' : Hp} {σ : L2.St} {ρ : En} {m : En → Out D}
theorem wd_args {vs : List V} {ds : List D} (w : Wd K T B F H σ ρ) (l : IsL K T F vs ds) : Wd K T H F H (vs.map some) (ds.map fun d => some (.im d)) := by
  refine ⟨Same.refl H, w.f, by simp [l.length], fun _ => [], fun i o e => ?_, fun i j a m => (by cases m), fun i a m => (by cases m)⟩
  rw [List.getElem?_map] at e
  cases ed : ds[i]? with
  | none => rw [ed] at e; cases e
  | some d =>
    rw [ed] at e
    cases e
    obtain ⟨v, ev, iv⟩ := l.get ed
    exact ⟨v, by rw [List.getElem?_map, ev]; rfl, .im iv⟩
/-- behind a call that kept all of the heap -/
theorem Wd.back {σ' : L2.St} {ρ' : En} (w : Wd K T B F H σ ρ) (g : Gw H F F') (w' : Wd K T H F' H' σ' ρ') : Gw B F F' ∧ Wd K T B F' H' σ ρ := by
  have g' : Gw B F F' := g.less w.b
  exact ⟨g', w.grow g' (w.b.trans w'.b) w'.f (fun a u e _ _ => w'.b a u e) g.n⟩
/-- .. a new object besides is nobody's -/
theorem Wd.backTo {σ' : L2.St} {ρ' : En} {x : Addr} {u : HO} (w : Wd K T B F H σ ρ) (g : Gw H F F') (w' : Wd K T H F' H' σ' ρ') (hx : H x = none) (bx : B x = none) (hu : H' x = some u) : Wd K T (upd B x u) F' H' σ ρ := by
  obtain ⟨φ, h1, h2, h3⟩ := w.o
  refine ⟨fun b o e => ?_, w'.f, w.l, φ, fun i o e => ?_, h2, fun i a m => ?_⟩
  · by_cases z : b = x
    · subst z; rw [upd_same] at e; cases e; exact hu
    · rw [upd_ne z] at e; exact w'.b _ _ (w.b _ _ e)
  · obtain ⟨v, e1, q⟩ := h1 i o e
    exact ⟨v, e1, q.mono g.s fun a _ u e => w'.b a u e⟩
  · obtain ⟨⟨o, e⟩, hf, hb⟩ := h3 i a m
    obtain ⟨v, _, q⟩ := h1 i o e
    obtain ⟨y, hy⟩ := q.there a m
    refine ⟨⟨o, e⟩, ?_, by rw [upd_ne (ne_of_none hy hx)]; exact hb⟩
    cases z : F' a with
    | none => rfl
    | some p =>
      rcases g.n a p z with z | z
      · rw [hf] at z; cases z
      · rw [hy] at z; cases z
theorem onD_post {vs : List V} {ds : List D} {Q : VK} {n : Nat} (w : Wd K T B F H σ ρ) (l : IsL K T F vs ds) (hn : ds.length = n) (q : Post K T W B F σ (Is K T) (onD m ds ρ) Q) : spM K T n m vs H Q (fun c dd H' => W c dd σ H') := by
  refine ⟨by rw [l.length, hn], H, F, _, wd_args w l, ?_⟩
  unfold onD at q
  revert q
  cases m (ds.map fun d => some (.im d)) with
  | ok d ρa =>
    intro q F' H' v g w' i
    obtain ⟨g2, w2⟩ := w.back g w'
    exact q F' H' v g2 w2 i
  | ex x ρa =>
    intro q F' H' c dd g w' e
    obtain ⟨g2, w2⟩ := w.back g w'
    exact q F' H' c dd g2 w2 e
  | er => exact id
/-- a fresh instance and its fields -/
def onMk (c nf : Nat) (m : En → Out D) (ds : List D) (ρ : En) : Out D := match m (some (.oi c []) :: ds.map fun d => some (.im d)) with
  | .ok .non (some (.oi c' fs) :: _) => if decide (c' = c ∧ fs.length = nf) then .ok (.ins c fs) ρ else .er
  | .ex x _ => .ex x ρ
  | _ => .er
theorem onMk_post {vs : List V} {ds : List D} {Q : VK} {n c nf : Nat} {x dx : Addr} (w : Wd K T B F H σ ρ) (l : IsL K T F vs ds) (hn : ds.length + 1 = n) (hf : (T.fl c).length = nf) (hx : H x = none) (hdx : H dx = none) (ne : dx ≠ x) (q : Post K T W B F σ (Is K T) (onMk c nf m ds ρ) Q) :
    spM K T n m (.ref x :: vs) (upd (upd H dx (.own x)) x (.ins (T.cl c) dx [])) (fun v H2 => v = .non ∧ Q (.ref x) H2) (fun c dd H' => W c dd σ H') := by
  -- the heap with the instance
  generalize hH1 : upd H dx (.own x) = H1
  have hx1 : H1 x = none := by rw [← hH1, upd_ne (Ne.symm ne)]; exact hx
  have s01 : Same H H1 := by rw [← hH1]; exact same_upd hdx
  have w1 : Wd K T B F H1 σ ρ := by rw [← hH1]; exact w.loose hdx
  obtain ⟨fx, bx⟩ := w1.nofree hx1
  have s12 : Same H1 (upd H1 x (.ins (T.cl c) dx [])) := same_upd hx1
  have wa : Wd K T H1 F (upd H1 x (.ins (T.cl c) dx [])) ((V.ref x :: vs).map some) (some (.oi c []) :: ds.map fun d => some (.im d)) := by
    have wl := wd_args w1 l
    refine ⟨s12, w1.f.trans s12, by simp [l.length], fset (fun _ => []) 0 [x], fun i o e => ?_, fun i j a m1 m2 => ?_, fun i a m1 => ?_⟩
    · cases i with
      | zero =>
        simp at e
        subst e
        exact ⟨.ref x, rfl, by rw [fset_same]; exact .oi (fs := []) upd_same (by simp) .nil⟩
      | succ i =>
        rw [fset_ne (Nat.succ_ne_zero i)]
        have e2 : (ds.map fun d => some (O.im d))[i]? = some (some o) := by simpa using e
        rw [List.getElem?_map] at e2
        cases ed : ds[i]? with
        | none => rw [ed] at e2; cases e2
        | some d =>
          rw [ed] at e2
          cases e2
          obtain ⟨v, ev, iv⟩ := l.get ed
          exact ⟨v, by simp [ev], .im iv⟩
    · by_cases z : i = 0
      · by_cases y : j = 0
        · rw [z, y]
        · rw [fset_ne y] at m2; cases m2
      · rw [fset_ne z] at m1; cases m1
    · by_cases z : i = 0
      · subst z
        rw [fset_same] at m1
        simp at m1
        subst m1
        exact ⟨⟨.oi c [], rfl⟩, fx, hx1⟩
      · rw [fset_ne z] at m1; cases m1
  refine ⟨by simp [l.length]; exact hn, H1, F, _, wa, ?_⟩
  unfold onMk at q
  revert q
  have exc : ∀ {ρa : En} {y : Xn}, Post K T W B F σ (Is K T) (.ex y ρ : Out D) Q → ∀ F' H' c' dd, Gw H1 F F' → Wd K T H1 F' H' ((V.ref x :: vs).map some) ρa → ExIs K T F' H' c' dd y → W c' dd σ H' := by
    intro ρa y q F' H' c' dd g w' e
    obtain ⟨g2, w2⟩ := w1.back g w'
    exact q F' H' c' dd g2 w2 e
  cases m (some (.oi c []) :: ds.map fun d => some (.im d)) with
  | ok d ρa =>
    cases d with
    | non =>
      cases ρa with
      | nil => exact fun q => q.elim
      | cons o r =>
        cases o with
        | none => exact fun q => q.elim
        | some o =>
          cases o with
          | oi c' fs =>
            intro q F' H' v g w' i
            have q : Post K T W B F σ (Is K T) (if decide (c' = c ∧ fs.length = nf) then .ok (.ins c fs) ρ else .er) Q := q
            split at q
            · rename_i hz
              obtain ⟨rfl, hl⟩ := of_decide_eq_true hz
              refine ⟨i.nonI, ?_⟩
              obtain ⟨g2, w2⟩ := w1.back g w'
              obtain ⟨v', fp, ev, ow, hfp⟩ := w'.own (i := 0) (o := .oi c' fs) rfl
              simp at ev
              subst ev
              obtain ⟨a, dy, gs, ea, efp, ha, hn', lf⟩ := ow.oiI
              cases ea
              have hxf := hfp x (by rw [efp]; simp)
              -- the instance is frozen
              have bx' : B x = none := bx
              obtain ⟨g3, w3⟩ := Wd.ice bx' (w1.backTo g w' hx1 bx' ha)
              exact q _ H' _ (g2.trans g3) w3 (.ins upd_same (by rw [hn', List.take_of_length_le (by omega)]) (lf.mono g3.s))
            · exact q.elim
          | _ => exact fun q => q.elim
    | _ => exact fun q => q.elim
  | ex y ρa => exact exc
  | er => exact id
end
end Ce
namespace Ce
open PySem PySem.Spec PyProof.Rows L2 Ce

/-! ### callables of the program -/
/-- the callable u runs on frozen values as m says -/
structure KF (X : Cx) (T : Ct) (W : WX) (u : Value) (m : List D → En → Out D) : Prop where
  ex : ∃ r : R3, CalR X u r ∧ ∀ (B F H : Hp) (σ : L2.St) (ρ : En) (Q : VK) vs ds, Wd X.K T B F H σ ρ → IsL X.K T F vs ds → Post X.K T W B F σ (Is X.K T) (m ds ρ) Q → r σ vs H Q
/-- n parameters, the last ones by default dd -/
def fnM (n : Nat) (dd : List D) (m : En → Out D) (ds : List D) (ρ : En) : Out D := if decide (ds.length + dd.length = n) then onD m (ds ++ dd) ρ else .er
def mkM (c nf n : Nat) (dd : List D) (m : En → Out D) (ds : List D) (ρ : En) : Out D := if decide (ds.length + dd.length + 1 = n) then onMk c nf m (ds ++ dd) ρ else .er
section
variable {X : Cx} {T : Ct} {W : WX} {k n : Nat} {f g p : Addr} {fd : FuncData} {ps : List Str} {m : En → Out D} {dvs : List V} {us : List Value} {dd : List D}
/-- a def of the program at X's program -/
abbrev FnM (X : Cx) (T : Ct) (k : Nat) (f : Addr) (fd : FuncData) (ps : List Str) (m : En → Out D) : Prop := FnOk X.prog X.w X.K X.mg X.base (L2.CX X.prog X.w) k f fd ps (spM X.K T ps.length m)
/-- the defaults of it, as values that need no heap -/
structure Dfl (K : PySem.W.Frag) (T : Ct) (fd : FuncData) (ps : List Str) (dd : List D) : Prop where
  ex : ∃ us dvs, Binds K fd ps us ∧ Vals dvs us ∧ ∀ F, IsL K T F dvs dd
theorem kf_fn (F : FnM X T k f fd ps m) (hr : Room k X.A) (hb : Dfl X.K T fd ps dd) (tk : Takes X W) (hn : ps.length = n := by rfl) : KF X T W (.ref f) (fnM n dd m) := by
  subst hn
  obtain ⟨us, dvs, b, v, id⟩ := hb
  refine ⟨_, cal_fn F hr b v (E := WE W) fun σ => passAt tk σ, fun B F0 H σ ρ Q vs ds w l q => ?_⟩
  unfold fnM at q
  split at q
  · rename_i h
    exact onD_post w (l.append (id F0)) (by simpa using of_decide_eq_true h) q
  · exact q.elim
theorem kf_mk {c nf : Nat} (M : Mk X.K (T.cl c) f) (F : FnM X T k f fd ps m) (hr : Room (k + 1) X.A) (hb : Dfl X.K T fd ps dd) (tk : Takes X W) (hf : (T.fl c).length = nf := by rfl) (hn : ps.length = n := by rfl) : KF X T W (.ref (T.cl c)) (mkM c nf n dd m) := by
  subst hn hf
  obtain ⟨us, dvs, b, v, id⟩ := hb
  refine ⟨_, cal_make M F hr b v (E := WE W) fun σ => passAt tk σ, fun B F0 H σ ρ Q vs ds w l q x dx hx hdx ne => ?_⟩
  unfold mkM at q
  split at q
  · rename_i h
    exact onMk_post w (l.append (id F0)) (by simpa using of_decide_eq_true h) rfl hx hdx ne q
  · exact q.elim
theorem KF.or {u : Value} {m m' : List D → En → Out D} (h : KF X T W u m) (e : m = m') : KF X T W u m' := e ▸ h
end

section
variable {X : Cx} {T : Ct} {W : WX} {m : List D → En → Out D} {fo : En → Out D} {x a : Str} {u : Value} {p pos apos : Pos} {e o : Expr} {es : List Expr} {g : En → Out (List D)}
/-- x(e, ..) -/
theorem pf_call (k : KF X T W u m) (hg : Gl X x) (hm : X.mg x = some u) (hk : PySem.W.keepIn X.K u = true) (ha : AF X T W (e :: es) g) (hdb : (x == ("__debug__" : Str)) = false := by decide)
    (he : starEach (e :: es) X.env = (false, eval e X.env) :: starEach es X.env := by rfl) (hpl : (backTo pos (starEach es X.env)).any (·.1) = false := by rfl) : PF X T W (.Call (.Name x p) (e :: es) [] pos) (cl1 m g) := by
  obtain ⟨r, c, hp⟩ := k
  obtain ⟨t, ht, hq⟩ := ha
  exact ⟨_, pe_nm c hg hm hk ht hdb he hpl, fun B F H σ ρ Q w q => hq B F H σ ρ _ w (Post.step q fun ds ρ1 F1 H1 vs g1 w1 l1 q1 => hp B F1 H1 σ ρ1 Q vs ds w1 l1 q1)⟩
theorem pf_call0 (k : KF X T W u m) (hg : Gl X x) (hm : X.mg x = some u) (hk : PySem.W.keepIn X.K u = true) (hdb : (x == ("__debug__" : Str)) = false := by decide) : PF X T W (.Call (.Name x p) [] [] pos) (cl1 m aN) := by
  obtain ⟨r, c, hp⟩ := k
  exact ⟨_, pe_nm0 c hg hm hk hdb, fun B F H σ ρ Q w q => hp B F H σ ρ Q [] [] w .nil q⟩
/-- o.a(e, ..), o an instance of the class c -/
def mt (c : Nat) (m : List D → En → Out D) (fo : En → Out D) (g : En → Out (List D)) : En → Out D := fun ρ => (fo ρ).bind fun d ρ => match d with
  | .ins c' ds => if decide (c' = c) then (g ρ).bind fun es ρ => m (.ins c' ds :: es) ρ else .er
  | _ => .er
theorem lookup_no {f : Str} : ∀ {fs : List (Str × V)}, (fs.map (·.1)).contains f = false → fs.lookup f = none
  | [], _ => rfl
  | (g, u) :: r, h => by
    simp only [List.map_cons, List.contains_cons, Bool.or_eq_false_iff] at h
    show (match f == g with | true => some u | false => r.lookup f) = none
    rw [h.1]
    exact lookup_no (fs := r) h.2
/-- the class c has the method a at f -/
structure MtOk (K : PySem.W.Frag) (T : Ct) (c : Nat) (a : Str) (f : Addr) : Prop where
  cls : Cls K (T.cl c)
  mth : Meth K (T.cl c) a f
  no : (T.fl c).contains a = false
variable {c : Nat} {f : Addr} {pl : Sem Bool}
theorem pf_mt (k : MtOk X.K T c a f) (kf : KF X T W (.ref f) m) (ho : PF X T W o fo) (ha : AF X T W (e :: es) g)
    (hst : starEach (e :: es) X.env = (false, eval e X.env) :: starEach es X.env := by rfl) (hpl : (backTo pos (starEach es X.env)).any (·.1) = false := by rfl)
    (ht : eval (.Call (.Attribute o a apos) (e :: es) [] pos) X.env = (do
      let ov ← eval o X.env
      standAt apos.atName
      let (f, first) ← holding [ov] (getMethod ov a pl)
      callWith pos f first (backTo pos (starEach (e :: es) X.env)) (backToKw pos (keywordEach [] X.env))) := by rfl) : PF X T W (.Call (.Attribute o a apos) (e :: es) [] pos) (mt c m fo g) := by
  obtain ⟨r, cr, hp⟩ := kf
  obtain ⟨to, hto, hpo⟩ := ho
  obtain ⟨t, hta, hq⟩ := ha
  refine ⟨_, pe_mt hto k.cls k.mth cr hta hst hpl ht, fun B F H σ ρ Q w q => hpo B F H σ ρ _ w (Post.step q fun d ρ1 F1 H1 v g1 w1 i1 q1 => ?_)⟩
  cases d with
  | ins c' ds =>
    dsimp only at q1
    split at q1
    · rename_i hc
      obtain rfl := of_decide_eq_true hc
      obtain ⟨y, dx, fs, rfl, hy, hn, l⟩ := id i1.insI
      refine ⟨y, dx, fs, rfl, w1.f _ _ hy, lookup_no (by rw [hn]; exact k.no), hq B F1 H1 σ ρ1 _ w1 (Post.step q1 fun es' ρ2 F2 H2 vs g2 w2 l2 q2 => ?_)⟩
      exact hp B F2 H2 σ ρ2 Q _ _ w2 (.cons (i1.mono g2.s) l2) q2
    · exact q1.elim
  | _ => exact q1.elim
theorem pf_mt0 (k : MtOk X.K T c a f) (kf : KF X T W (.ref f) m) (ho : PF X T W o fo)
    (ht : eval (.Call (.Attribute o a apos) [] [] pos) X.env = (do
      let ov ← eval o X.env
      standAt apos.atName
      let (f, first) ← holding [ov] (getMethod ov a pl)
      callWith pos f first (backTo pos (starEach [] X.env)) (backToKw pos (keywordEach [] X.env))) := by rfl) : PF X T W (.Call (.Attribute o a apos) [] [] pos) (mt c m fo aN) := by
  obtain ⟨r, cr, hp⟩ := kf
  obtain ⟨to, hto, hpo⟩ := ho
  refine ⟨_, pe_mt0 hto k.cls k.mth cr ht, fun B F H σ ρ Q w q => hpo B F H σ ρ _ w (Post.step q fun d ρ1 F1 H1 v g1 w1 i1 q1 => ?_)⟩
  cases d with
  | ins c' ds =>
    dsimp only at q1
    split at q1
    · rename_i hc
      obtain rfl := of_decide_eq_true hc
      obtain ⟨y, dx, fs, rfl, hy, hn, l⟩ := id i1.insI
      refine ⟨y, dx, fs, rfl, w1.f _ _ hy, lookup_no (by rw [hn]; exact k.no), ?_⟩
      exact hp B F1 H1 σ ρ1 Q _ _ w1 (.cons i1 .nil) q1
    · exact q1.elim
  | _ => exact q1.elim
end

/-! ### properties -/
/-- m on frozen values where nothing may be raised -/
def onV (m : En → Out D) (ds : List D) (ρ : En) : Out D := match m (ds.map fun d => some (.im d)) with
  | .ok d _ => .ok d ρ
  | _ => .er
abbrev noE : XK := fun _ _ _ => False
theorem onV_post {K : PySem.W.Frag} {T : Ct} {W : WX} {B F H : Hp} {σ : L2.St} {ρ : En} {m : En → Out D} {vs : List V} {ds : List D} {Q : VK} {n : Nat} (w : Wd K T B F H σ ρ) (l : IsL K T F vs ds) (hn : ds.length = n) (q : Post K T W B F σ (Is K T) (onV m ds ρ) Q) : spM K T n m vs H Q noE := by
  refine onD_post (W := fun _ _ _ _ => False) w l hn ?_
  unfold onV at q
  unfold onD
  revert q
  cases m (ds.map fun d => some (.im d)) with
  | ok d ρa => exact id
  | ex x ρa => exact fun q => q.elim
  | er => exact fun q => q.elim
theorem passesNo {X Y : Cx} : Passes (L2.CX X.prog X.w) Y noE := fun _ _ _ _ _ _ _ c => by
  obtain ⟨_, _, _, _, _, _, _, _, _, _, _, _, z⟩ := c
  exact z.elim
structure PrOk (K : PySem.W.Frag) (T : Ct) (c : Nat) (a : Str) (p g : Addr) : Prop where
  cls : Cls K (T.cl c)
  prp : PropOf K (T.cl c) a p g
def prp (c : Nat) (m : En → Out D) (fo : En → Out D) : En → Out D := fun ρ => (fo ρ).bind fun d ρ => match d with
  | .ins c' ds => if decide (c' = c) then onV m [.ins c' ds] ρ else .er
  | _ => .er
section
variable {X : Cx} {T : Ct} {W : WX} {k c : Nat} {fo m : En → Out D} {a : Str} {pos : Pos} {o : Expr} {p g : Addr} {fd : FuncData} {ps : List Str}
theorem pf_prp (h : PrOk X.K T c a p g) (F : FnM X T k g fd ps m) (hps : ps.length = 1) (hr : Room (k + 1) X.A) (hb : Dfl X.K T fd ps []) (ho : PF X T W o fo) (hab : attributeBase o a X.env (eval o X.env) = eval o X.env := by rfl) :
    PF X T W (.Attribute o a pos) (prp c m fo) := by
  obtain ⟨to, hto, hpo⟩ := ho
  obtain ⟨us, dvs, b, v, hd⟩ := hb
  have e0 : dvs = [] := by
    have z := hd fun _ => none
    cases z
    rfl
  subst e0
  refine ⟨_, pe_prop hto h.cls h.prp F hr b v passesNo hab, fun B F0 H σ ρ Q w q => hpo B F0 H σ ρ _ w (Post.step q fun d ρ1 F1 H1 v g1 w1 i1 q1 => ?_)⟩
  cases d with
  | ins c' ds =>
    dsimp only at q1
    split at q1
    · rename_i hc
      obtain rfl := of_decide_eq_true hc
      obtain ⟨y, dx, fs, rfl, hy, hn, l⟩ := id i1.insI
      exact ⟨y, dx, fs, rfl, w1.f _ _ hy, onV_post w1 (.cons i1 .nil) (by rw [hps]; rfl) q1⟩
    · exact q1.elim
  | _ => exact q1.elim
end
end Ce
namespace Ce
open PySem PySem.Spec PyProof.Rows L2 Ce

/-! ### a callee somewhere below the body, where nothing may be raised -/
section
variable {X : Cx} {T : Ct} {W : WX} {k n : Nat} {f g p : Addr} {fd : FuncData} {ps : List Str} {m : En → Out D} {pins : List (Addr × Obj)} {σ : L2.St} {H : Hp} {s : Shared} {A : Around} {Er : Value → Shared → Prop}
theorem Dfl.none (b : Dfl X.K T fd ps []) : Binds X.K fd ps [] := by
  obtain ⟨us, dvs, b, v, hd⟩ := b
  have e0 : dvs = [] := by
    have z := hd fun _ => Option.none
    cases z
    rfl
  subst e0
  cases v
  exact b
theorem run_sub {Q : VK} {us : List Value} {vs : List V} (F : FnM X T k f fd ps m) (sb : Sub X k A) (b : Dfl X.K T fd ps []) (I : Inv X pins σ H s) (r : Vals vs us) (h : spM X.K T ps.length m vs H Q noE) :
    wpAny (model X.prog X.w) A (call (.ref f) us) (EP X pins σ Q) Er s := by
  have bb := b.none
  have e0 : Env0 X.prog X.w X.K X.mg X.base A X.stack s H := by
    have z := I.env0
    exact ⟨by rw [sb.fr]; exact z.frames, z.mod, z.bs, z.bsz, z.funs, z.frf, z.hok, z.bare⟩
  have hl := F.len _ _ _ _ h
  have bt := bb s us I.kIn (by rw [List.append_nil, ← r.length]; exact hl)
  rw [List.append_nil] at bt
  refine wpAny_call (codeAny_mono (F.run A X.stack s H ⟨us, []⟩ us vs Q noE sb.room e0 bt r h) fun r s' hq => ?_)
  cases r with
  | error e =>
    obtain ⟨_, _, _, _, _, _, _, _, _, _, _, _, z⟩ := hq
    exact z.elim
  | ok fl =>
    cases fl with
    | ret w => exact I.after hq
    | next => exact hq.elim
    | brk => exact hq.elim
    | cont => exact hq.elim
end

/-! ### growth without slots -/
structure Nx (H F H' F' : Hp) : Prop where
  h : Same H H'
  f : Same F' H'
  g : Gw H F F'
theorem Nx.trans {H F H1 F1 H2 F2 : Hp} (a : Nx H F H1 F1) (b : Nx H1 F1 H2 F2) : Nx H F H2 F2 := ⟨a.h.trans b.h, b.f, a.g.trans (b.g.less a.h)⟩
theorem Wd.nx {K : PySem.W.Frag} {T : Ct} {B F H F' H' : Hp} {σ : L2.St} {ρ : En} (w : Wd K T B F H σ ρ) (n : Nx H F H' F') : Gw B F F' ∧ Wd K T B F' H' σ ρ := by
  have g' : Gw B F F' := n.g.less w.b
  exact ⟨g', w.grow g' (w.b.trans n.h) n.f (fun a u e _ _ => n.h a u e) n.g.n⟩

/-! ### the same object says the same -/
structure Ct.Inj (T : Ct) : Prop where
  cl : ∀ c c', T.cl c = T.cl c' → c = c'
theorem relV_uniq {x y : V} {u : Value} (h : L2.RelV x u) (h' : L2.RelV y u) : x = y := by
  cases x <;> cases y <;> simp only [L2.RelV] at h h' <;> grind
theorem vals_uniq : ∀ {xs ys : List V} {us : List Value}, Vals xs us → Vals ys us → xs = ys
  | [], [], _, _, _ => rfl
  | [], _ :: _, _, .nil, h => nomatch h
  | _ :: _, [], _, h, .nil => nomatch h
  | _ :: _, _ :: _, _, .cons r t, .cons r' t' => by rw [relV_uniq r r', vals_uniq t t']
def tidy (K : PySem.W.Frag) (F : Hp) : Prop := ∀ a o, K.lookup a = some o → F a = none
section
variable {K : PySem.W.Frag} {T : Ct} {F : Hp} {a : Addr} {xs ys : List V}
theorem sqL_uniq (t : tidy K F) (h : SqL K F a xs) (h' : SqL K F a ys) : xs = ys := by
  rcases h with (h | ⟨o, h⟩) | ⟨o, its, n, e1, _, _, e4, _, v⟩ <;> rcases h' with (h' | ⟨o', h'⟩) | ⟨o', its', n', e1', _, _, e4', _, v'⟩ <;> grind [tidy, vals_uniq]
theorem sqT_uniq (t : tidy K F) (h : SqT K F a xs) (h' : SqT K F a ys) : xs = ys := by
  rcases h with (h | ⟨o, h⟩) | ⟨o, its, n, e1, _, e4, _, v⟩ <;> rcases h' with (h' | ⟨o', h'⟩) | ⟨o', its', n', e1', _, e4', _, v'⟩ <;> grind [tidy, vals_uniq]
theorem sqLT (t : tidy K F) (h : SqL K F a xs) (h' : SqT K F a ys) : False := by
  rcases h with (h | ⟨o, h⟩) | ⟨o, its, n, e1, c1, _, e4, _, v⟩ <;> rcases h' with (h' | ⟨o', h'⟩) | ⟨o', its', n', e1', c1', e4', _, v'⟩ <;> grind [tidy]
theorem sqL_ins {u : HO} {C dx : Addr} {fs : List (Str × V)} (t : tidy K F) (h : SqL K F a xs) (h' : F a = some (.ins C dx fs)) : False := by
  rcases h with (h | ⟨o, h⟩) | ⟨o, its, n, e1, c1, _, e4, _, v⟩ <;> grind [tidy]
theorem sqT_ins {u : HO} {C dx : Addr} {fs : List (Str × V)} (t : tidy K F) (h : SqT K F a xs) (h' : F a = some (.ins C dx fs)) : False := by
  rcases h with (h | ⟨o, h⟩) | ⟨o, its, n, e1, c1, e4, _, v⟩ <;> grind [tidy]
mutual
theorem Is.uniq (t : tidy K F) (hT : T.Inj) : ∀ {v : V} {d d' : D}, Is K T F v d → Is K T F v d' → d = d'
  | _, _, _, .non, h => by cases h <;> first | rfl | simp_all [raws]
  | _, _, _, .bl b, h => by cases h <;> first | rfl | simp_all [raws]
  | _, _, _, .int i, h => by cases h <;> first | rfl | simp_all [raws]
  | _, _, _, .str s, h => by cases h <;> first | rfl | simp_all [raws]
  | _, _, _, .raw v hv, h => by cases h <;> first | rfl | simp_all [raws]
  | _, _, _, .lst h1 l1, h => by
    cases h with
    | lst h2 l2 =>
      cases sqL_uniq t h1 h2
      rw [IsL.uniq t hT l1 l2]
    | tup h2 l2 => exact (sqLT t h1 h2).elim
    | ins h2 n2 l2 => exact (sqL_ins (u := .tup []) t h1 h2).elim
    | raw v hv => simp_all [raws]
  | _, _, _, .tup h1 l1, h => by
    cases h with
    | lst h2 l2 => exact (sqLT t h2 h1).elim
    | tup h2 l2 =>
      cases sqT_uniq t h1 h2
      rw [IsL.uniq t hT l1 l2]
    | ins h2 n2 l2 => exact (sqT_ins (u := .tup []) t h1 h2).elim
    | raw v hv => simp_all [raws]
  | _, _, _, .ins h1 n1 l1, h => by
    cases h with
    | lst h2 l2 => exact (sqL_ins (u := .tup []) t h2 h1).elim
    | tup h2 l2 => exact (sqT_ins (u := .tup []) t h2 h1).elim
    | ins h2 n2 l2 =>
      have e := h1.symm.trans h2
      simp only [Option.some.injEq, HO.ins.injEq] at e
      obtain ⟨ec, _, ef⟩ := e
      subst ef
      rw [hT.cl _ _ ec, IsL.uniq t hT l1 l2]
    | raw v hv => simp_all [raws]
theorem IsL.uniq (t : tidy K F) (hT : T.Inj) : ∀ {vs : List V} {ds ds' : List D}, IsL K T F vs ds → IsL K T F vs ds' → ds = ds'
  | _, _, _, .nil, .nil => rfl
  | _, _, _, .cons h l, .cons h' l' => by rw [Is.uniq t hT h h', IsL.uniq t hT l l']
end
end
theorem inv_tidy {X : Cx} {pins : List (Addr × Obj)} {σ : L2.St} {H F : Hp} {s : Shared} (I : Inv X pins σ H s) (f : Same F H) : tidy X.K F := fun a o h => f.free (I.bs a o (I.ok.mod.kin a o h)).2
end Ce
namespace Ce.SeqTwo
open PySem PySem.SeqAt AutoSeq1 MeetsSeq MeetsSeq2 MeetsSeq3 SeqRoads2

section
variable {prog : Program} {w : World} {A : Around} {R : Result → Shared → Prop} {E : Value → Shared → Prop} {s : Shared}
/-- the answer b is told by the pairs from i on (P i); the two lists are read anew at each turn -/
structure Pairs (prog : Program) (w : World) (A : Around) (E : Value → Shared → Prop) (l r : Addr) (n m : Nat) (I : Shared → Prop) (P : Nat → Prop) (b : Bool) : Prop where
  read : ∀ s, I s → ∃ (xs ys : Array Value) (k k2 : Nat) (d1 d2 : Option Addr) (s1 s2 : Array (Option Value)), s.heap.get? l = some { cls := .type "list", dict := d1, data := .seq xs k, slots := s1 } ∧ s.heap.get? r = some { cls := .type "list", dict := d2, data := .seq ys k2, slots := s2 } ∧ xs.size = n ∧ ys.size = m ∧
    ∀ i (h1 : i < xs.size) (h2 : i < ys.size), P i → wpAny (model prog w) A.in1 (eqBool xs[i] ys[i]) (fun r s' => I s' ∧ (r = true → P (i + 1)) ∧ (r = false → b = false)) E s
  fin : ∀ i, P i → ¬ (i < n ∧ i < m) → b = (n == m)

theorem list_eq_turns (l r : Addr) (n : Nat) (I : Shared → Prop) (P : Nat → Prop) (b : Bool) (p : Pairs prog w A (fun e s' => R (.error e) s') l r n n I P b)
    (fin : ∀ s, I s → R (.ok (.ret (.bool b))) s) (k : Nat) :
    ∀ i : Nat, n - i = k → P i → ∀ s, I s →
      wpAny (model prog w) A.in1 (Builtin.«list.__eq__.loop» ⟨[.ref l, .ref r, rawInt i, rawInt 2], []⟩) (GQ.FinOf prog w A R) (fun e s' => R (.error e) s') s := by
  induction k with
  | zero =>
    intro i hk hp s h
    obtain ⟨xs, ys, k1, k2, d1, d2, s1, s2, hl, hr, hx, hy, _⟩ := p.read s h
    have hb := p.fin i hp (by omega)
    have hR := fin s h
    obtain ⟨hp', g, d, tk, os⟩ := s
    wp_walk using wpAny_loadPart' hl, wpAny_loadPart' hr
    have e1 : xs[((i : Nat) : Int).toNat]? = none := by simp; omega
    have e2 : ys[((i : Nat) : Int).toNat]? = none := by simp; omega
    rw [e1, e2]
    wp_walk using wpAny_loadPart' hl, wpAny_loadPart' hr
    show R (.ok (.ret (.bool (xs.size == ys.size)))) _
    rw [hx, hy]
    rw [hb] at hR
    simpa using hR
  | succ k ih =>
    intro i hk hp s h
    obtain ⟨xs, ys, k1, k2, d1, d2, s1, s2, hl, hr, hx, hy, turn⟩ := p.read s h
    have l1 : i < xs.size := by omega
    have l2 : i < ys.size := by omega
    have ht := turn i l1 l2 hp
    obtain ⟨hp', g, d, tk, os⟩ := s
    wp_walk using wpAny_loadPart' hl, wpAny_loadPart' hr
    have e1 : xs[((i : Nat) : Int).toNat]? = some xs[i] := by simp [l1]
    have e2 : ys[((i : Nat) : Int).toNat]? = some ys[i] := by simp [l2]
    have e3 : ((i : Int) + 1) = ((i + 1 : Nat) : Int) := by omega
    rw [e1, e2]
    refine wpAny_bind (wpAny_mono ht (fun r' t2 h2 => ?_) fun _ _ x => x)
    obtain ⟨hi, ht', hf'⟩ := h2
    cases r' with
    | true =>
      have onw := ih (i + 1) (by omega) (ht' rfl) t2 hi
      obtain ⟨hp2, g2, dr2, tk2, os2⟩ := t2
      wp_walk
      rw [e3]
      exact ⟨plainId_quiet plain_eq_loop _, codeAny_builtin entry_eq_loop (by
        rw [Around.under_plainId plain_eq_loop _]
        exact onw)⟩
    | false =>
      have hb := hf' rfl
      have hR := fin t2 hi
      obtain ⟨ys1, ys2, q1, q2, d3, d4, s3, s4, hl2, hr2, hx2, hy2, _⟩ := p.read t2 hi
      have f1 : ys1[((i : Nat) : Int).toNat]? = some ys1[i] := by simp [show i < ys1.size by omega]
      have f2 : ys2[((i : Nat) : Int).toNat]? = some ys2[i] := by simp [show i < ys2.size by omega]
      obtain ⟨hp2, g2, dr2, tk2, os2⟩ := t2
      wp_walk using wpAny_loadPart' hl2, wpAny_loadPart' hr2
      rw [f1, f2]
      wp_walk
      rw [hb] at hR
      simpa using hR
theorem list_eq_body (l r : Addr) (n m : Nat) (I : Shared → Prop) (P : Nat → Prop) (b : Bool) (p : Pairs prog w A (fun e s' => R (.error e) s') l r n m I P b) (hnm : n = m)
    (fin : ∀ s, I s → R (.ok (.ret (.bool b))) s) (h0 : P 0) {s : Shared} (h : I s) :
    wpAny (model prog w) A.in1 (Builtin.«list.__eq__» ⟨[.ref l, .ref r], []⟩) (GQ.FinOf prog w A R) (fun e s' => R (.error e) s') s := by
  subst hnm
  obtain ⟨xs, ys, k1, k2, d1, d2, s1, s2, hl, hr, hx, hy, _⟩ := p.read s h
  have onw := list_eq_turns (A := A) (R := R) l r n I P b p fin _ 0 rfl h0 s h
  obtain ⟨hp, g, d, tk, os⟩ := s
  have f3 := AutoSeq1.sub_list_list
  have same : ¬ (xs.size != ys.size) = true := by simp [hx, hy]
  wp_walk using wpAny_loadPart' hl, wpAny_loadPart' hr
  exact ⟨plainId_quiet plain_eq_loop _, codeAny_builtin entry_eq_loop (by
    rw [Around.under_plainId plain_eq_loop _]
    exact onw)⟩
theorem tuple_eq_body (l r : Addr) (xs ys : Array Value) (k1 k2 : Nat) (d1 d2 : Option Addr) (s1 s2 : Array (Option Value)) (I : Shared → Prop) (P : Nat → Prop) (b : Bool)
    (turn : ∀ i (h1 : i < xs.size) (h2 : i < ys.size) s, P i → I s → wpAny (model prog w) A.in1 (eqBool xs[i] ys[i]) (fun r s' => I s' ∧ (r = true → P (i + 1)) ∧ (r = false → b = false)) (fun e s' => R (.error e) s') s)
    (last : ∀ i, P i → i ≤ xs.size → i ≤ ys.size → ¬ (i < xs.size ∧ i < ys.size) → b = (xs.size == ys.size)) (fin : ∀ s, I s → R (.ok (.ret (.bool b))) s) {s : Shared}
    (hl : s.heap.get? l = some { cls := .type "tuple", dict := d1, data := .seq xs k1, slots := s1 }) (hr : s.heap.get? r = some { cls := .type "tuple", dict := d2, data := .seq ys k2, slots := s2 }) (h0 : P 0) (h : I s) :
    wpAny (model prog w) A.in1 (Builtin.«tuple.__eq__» ⟨[.ref l, .ref r], []⟩) (GQ.FinOf prog w A R) (fun e s' => R (.error e) s') s := by
  have f2 := AutoSeq1.sub_tuple_tuple
  have hZ : (xs.toList.zip ys.toList).length = min xs.size ys.size := by simp
  have hI := h
  obtain ⟨hp, g, d, tk, os⟩ := s
  wp_walk using wpAny_loadPart' hl, wpAny_loadPart' hr, wpAny_forIn_list _ (fun rest c s' => c.1 = none ∧ ∃ i, rest = (xs.toList.zip ys.toList).drop i ∧ i ≤ min xs.size ys.size ∧ P i ∧ I s') _
  case turn =>
    rintro ⟨y, x⟩ rest c s' ⟨hb', i, hz, hi, hP, hI'⟩
    have hlt : i < (xs.toList.zip ys.toList).length := by
      rcases Nat.lt_or_ge i (xs.toList.zip ys.toList).length with h' | h'
      · exact h'
      · rw [List.drop_of_length_le h'] at hz; cases hz
    have h1 : i < xs.size := by omega
    have h2 : i < ys.size := by omega
    rw [List.drop_eq_getElem_cons hlt] at hz
    injection hz with hyx hrest
    have ey : y = xs[i] := by have := congrArg Prod.fst hyx; simpa using this
    have ex : x = ys[i] := by have := congrArg Prod.snd hyx; simpa using this
    subst ey ex
    refine wpAny_bind (wpAny_mono (turn i h1 h2 s' hP hI') (fun r' s3 q3 => ?_) fun _ _ x => x)
    obtain ⟨q1, q2, q3⟩ := q3
    cases r' with
    | true =>
      wp_walk
      exact ⟨rfl, i + 1, hrest, by omega, q2 rfl, q1⟩
    | false =>
      have hR := fin s3 q1
      rw [q3 rfl] at hR
      wp_walk
      simpa using hR
  case fin =>
    rintro ⟨b1, b2⟩ s' ⟨hb', i, hz, hi, hP, hI'⟩
    simp only at hb'
    subst hb'
    have hge : (xs.toList.zip ys.toList).length ≤ i := by
      rcases Nat.lt_or_ge i (xs.toList.zip ys.toList).length with h' | h'
      · rw [List.drop_eq_getElem_cons h'] at hz; cases hz
      · exact h'
    have hR := fin s' hI'
    rw [last i hP (by omega) (by omega) (by omega)] at hR
    wp_walk
    simpa [Builtin.Tuple.tupleCompareSizes, bne] using hR
  case h =>
    exact ⟨rfl, 0, rfl, Nat.zero_le _, h0, hI⟩

theorem list_ne_turns (l r : Addr) (n : Nat) (I : Shared → Prop) (P : Nat → Prop) (b : Bool) (p : Pairs prog w A (fun e s' => R (.error e) s') l r n n I P b)
    (fin : ∀ s, I s → R (.ok (.ret (.bool (!b)))) s) (k : Nat) :
    ∀ i : Nat, n - i = k → P i → ∀ s, I s →
      wpAny (model prog w) A.in1 (Builtin.«list.__eq__.loop» ⟨[.ref l, .ref r, rawInt i, rawInt 3], []⟩) (GQ.FinOf prog w A R) (fun e s' => R (.error e) s') s := by
  induction k with
  | zero =>
    intro i hk hp s h
    obtain ⟨xs, ys, k1, k2, d1, d2, s1, s2, hl, hr, hx, hy, _⟩ := p.read s h
    have hb := p.fin i hp (by omega)
    have hR := fin s h
    obtain ⟨hp', g, d, tk, os⟩ := s
    wp_walk using wpAny_loadPart' hl, wpAny_loadPart' hr
    have e1 : xs[((i : Nat) : Int).toNat]? = none := by simp; omega
    have e2 : ys[((i : Nat) : Int).toNat]? = none := by simp; omega
    rw [e1, e2]
    wp_walk using wpAny_loadPart' hl, wpAny_loadPart' hr
    show R (.ok (.ret (.bool (xs.size != ys.size)))) _
    rw [hx, hy]
    rw [hb] at hR
    simpa using hR
  | succ k ih =>
    intro i hk hp s h
    obtain ⟨xs, ys, k1, k2, d1, d2, s1, s2, hl, hr, hx, hy, turn⟩ := p.read s h
    have l1 : i < xs.size := by omega
    have l2 : i < ys.size := by omega
    have ht := turn i l1 l2 hp
    obtain ⟨hp', g, d, tk, os⟩ := s
    wp_walk using wpAny_loadPart' hl, wpAny_loadPart' hr
    have e1 : xs[((i : Nat) : Int).toNat]? = some xs[i] := by simp [l1]
    have e2 : ys[((i : Nat) : Int).toNat]? = some ys[i] := by simp [l2]
    have e3 : ((i : Int) + 1) = ((i + 1 : Nat) : Int) := by omega
    rw [e1, e2]
    refine wpAny_bind (wpAny_mono ht (fun r' t2 h2 => ?_) fun _ _ x => x)
    obtain ⟨hi, ht', hf'⟩ := h2
    cases r' with
    | true =>
      have onw := ih (i + 1) (by omega) (ht' rfl) t2 hi
      obtain ⟨hp2, g2, dr2, tk2, os2⟩ := t2
      wp_walk
      rw [e3]
      exact ⟨plainId_quiet plain_eq_loop _, codeAny_builtin entry_eq_loop (by
        rw [Around.under_plainId plain_eq_loop _]
        exact onw)⟩
    | false =>
      have hb := hf' rfl
      have hR := fin t2 hi
      obtain ⟨ys1, ys2, q1, q2, d3, d4, s3, s4, hl2, hr2, hx2, hy2, _⟩ := p.read t2 hi
      have f1 : ys1[((i : Nat) : Int).toNat]? = some ys1[i] := by simp [show i < ys1.size by omega]
      have f2 : ys2[((i : Nat) : Int).toNat]? = some ys2[i] := by simp [show i < ys2.size by omega]
      obtain ⟨hp2, g2, dr2, tk2, os2⟩ := t2
      wp_walk using wpAny_loadPart' hl2, wpAny_loadPart' hr2
      rw [f1, f2]
      wp_walk
      rw [hb] at hR
      simpa using hR
theorem list_ne_body (l r : Addr) (n m : Nat) (I : Shared → Prop) (P : Nat → Prop) (b : Bool) (p : Pairs prog w A (fun e s' => R (.error e) s') l r n m I P b) (hnm : n = m)
    (fin : ∀ s, I s → R (.ok (.ret (.bool (!b)))) s) (h0 : P 0) {s : Shared} (h : I s) :
    wpAny (model prog w) A.in1 (Builtin.«list.__ne__» ⟨[.ref l, .ref r], []⟩) (GQ.FinOf prog w A R) (fun e s' => R (.error e) s') s := by
  subst hnm
  obtain ⟨xs, ys, k1, k2, d1, d2, s1, s2, hl, hr, hx, hy, _⟩ := p.read s h
  have onw := list_ne_turns (A := A) (R := R) l r n I P b p fin _ 0 rfl h0 s h
  obtain ⟨hp, g, d, tk, os⟩ := s
  have f3 := AutoSeq1.sub_list_list
  have same : ¬ (xs.size != ys.size) = true := by simp [hx, hy]
  wp_walk using wpAny_loadPart' hl, wpAny_loadPart' hr
  exact ⟨plainId_quiet plain_eq_loop _, codeAny_builtin entry_eq_loop (by
    rw [Around.under_plainId plain_eq_loop _]
    exact onw)⟩
theorem tuple_ne_body (l r : Addr) (xs ys : Array Value) (k1 k2 : Nat) (d1 d2 : Option Addr) (s1 s2 : Array (Option Value)) (I : Shared → Prop) (P : Nat → Prop) (b : Bool)
    (turn : ∀ i (h1 : i < xs.size) (h2 : i < ys.size) s, P i → I s → wpAny (model prog w) A.in1 (eqBool xs[i] ys[i]) (fun r s' => I s' ∧ (r = true → P (i + 1)) ∧ (r = false → b = false)) (fun e s' => R (.error e) s') s)
    (last : ∀ i, P i → i ≤ xs.size → i ≤ ys.size → ¬ (i < xs.size ∧ i < ys.size) → b = (xs.size == ys.size)) (fin : ∀ s, I s → R (.ok (.ret (.bool (!b)))) s) {s : Shared}
    (hl : s.heap.get? l = some { cls := .type "tuple", dict := d1, data := .seq xs k1, slots := s1 }) (hr : s.heap.get? r = some { cls := .type "tuple", dict := d2, data := .seq ys k2, slots := s2 }) (h0 : P 0) (h : I s) :
    wpAny (model prog w) A.in1 (Builtin.«tuple.__ne__» ⟨[.ref l, .ref r], []⟩) (GQ.FinOf prog w A R) (fun e s' => R (.error e) s') s := by
  have f2 := AutoSeq1.sub_tuple_tuple
  have hZ : (xs.toList.zip ys.toList).length = min xs.size ys.size := by simp
  have hI := h
  obtain ⟨hp, g, d, tk, os⟩ := s
  wp_walk using wpAny_loadPart' hl, wpAny_loadPart' hr, wpAny_forIn_list _ (fun rest c s' => c.1 = none ∧ ∃ i, rest = (xs.toList.zip ys.toList).drop i ∧ i ≤ min xs.size ys.size ∧ P i ∧ I s') _
  case turn =>
    rintro ⟨y, x⟩ rest c s' ⟨hb', i, hz, hi, hP, hI'⟩
    have hlt : i < (xs.toList.zip ys.toList).length := by
      rcases Nat.lt_or_ge i (xs.toList.zip ys.toList).length with h' | h'
      · exact h'
      · rw [List.drop_of_length_le h'] at hz; cases hz
    have h1 : i < xs.size := by omega
    have h2 : i < ys.size := by omega
    rw [List.drop_eq_getElem_cons hlt] at hz
    injection hz with hyx hrest
    have ey : y = xs[i] := by have := congrArg Prod.fst hyx; simpa using this
    have ex : x = ys[i] := by have := congrArg Prod.snd hyx; simpa using this
    subst ey ex
    refine wpAny_bind (wpAny_mono (turn i h1 h2 s' hP hI') (fun r' s3 q3 => ?_) fun _ _ x => x)
    obtain ⟨q1, q2, q3⟩ := q3
    cases r' with
    | true =>
      wp_walk
      exact ⟨rfl, i + 1, hrest, by omega, q2 rfl, q1⟩
    | false =>
      have hR := fin s3 q1
      rw [q3 rfl] at hR
      wp_walk
      simpa using hR
  case fin =>
    rintro ⟨b1, b2⟩ s' ⟨hb', i, hz, hi, hP, hI'⟩
    simp only at hb'
    subst hb'
    have hge : (xs.toList.zip ys.toList).length ≤ i := by
      rcases Nat.lt_or_ge i (xs.toList.zip ys.toList).length with h' | h'
      · rw [List.drop_eq_getElem_cons h'] at hz; cases hz
      · exact h'
    have hR := fin s' hI'
    rw [last i hP (by omega) (by omega) (by omega)] at hR
    wp_walk
    simpa [Builtin.Tuple.tupleCompareSizes, bne] using hR
  case h =>
    exact ⟨rfl, 0, rfl, Nat.zero_le _, h0, hI⟩

theorem rc_list_eq {l r : Addr} {n m : Nat} {Q : Value → Shared → Prop} (hu : A.units < cLine) (I : Shared → Prop) (P : Nat → Prop) (b : Bool) (p : Pairs prog w A E l r n m I P b) (hb : n ≠ m → b = false)
    (fin : ∀ s, I s → Q (.bool b) s) (h0 : n = m → P 0) (h : I s) : wpAny (model prog w) A (richCompare .Eq (.ref l) (.ref r)) Q E s := by
  obtain ⟨xs, ys, k1, k2, d1, d2, s1, s2, hl, hr, hx, hy, _⟩ := p.read s h
  by_cases hnm : n = m
  · refine wpAny_richCompare_same_room (op := .Eq) ⟨_, hl, rfl⟩ ⟨_, hr, rfl⟩ F.slot_list_eq (GQ.call_here F.slot_list_eq ⟨_, hl, rfl⟩ F.entry_list_eq (F.args_list_eq_2 _ _) ?_) hu
    have z := list_eq_body (R := wants (fun v s' => v ≠ .notImplemented ∧ Q v s') E) l r n m I P b p hnm (fun s' q => ⟨(fun x => nomatch x), fin s' q⟩) (h0 hnm) h
    exact wpAny_mono z (fun f s' q => by cases f <;> exact q) fun _ _ q => q
  · have e : Q (.bool false) s := by
      have z := fin s h
      rw [hb hnm] at z
      exact z
    exact RcAt.lists_lengths ⟨_, hl, rfl, _, rfl⟩ ⟨_, hr, rfl, _, rfl⟩ (by rw [hx, hy]; simpa using hnm) hu prog w E Q e
theorem rc_tuple_eq {l r : Addr} {xs ys : Array Value} {Q : Value → Shared → Prop} (hu : A.units < cLine) (I : Shared → Prop) (P : Nat → Prop) (b : Bool) (hl : s.heap.IsTuple l xs) (hr : s.heap.IsTuple r ys)
    (turn : ∀ i (h1 : i < xs.size) (h2 : i < ys.size) s, P i → I s → wpAny (model prog w) A.in1 (eqBool xs[i] ys[i]) (fun r s' => I s' ∧ (r = true → P (i + 1)) ∧ (r = false → b = false)) E s)
    (last : ∀ i, P i → i ≤ xs.size → i ≤ ys.size → ¬ (i < xs.size ∧ i < ys.size) → b = (xs.size == ys.size)) (fin : ∀ s, I s → Q (.bool b) s) (h0 : P 0) (h : I s) :
    wpAny (model prog w) A (richCompare .Eq (.ref l) (.ref r)) Q E s := by
  obtain ⟨⟨cls, dd, data, sl⟩, ho, hc, n, hd⟩ := id hl
  obtain ⟨⟨cls2, dd2, data2, sl2⟩, ho2, hc2, n2, hd2⟩ := id hr
  simp only at hc hd hc2 hd2
  subst hc hd hc2 hd2
  refine wpAny_richCompare_same_room (op := .Eq) ⟨_, ho, rfl⟩ ⟨_, ho2, rfl⟩ F.slot_tuple_eq (GQ.call_here F.slot_tuple_eq ⟨_, ho, rfl⟩ F.entry_tuple_eq (F.args_tuple_eq_2 _ _) ?_) hu
  have z := tuple_eq_body (R := wants (fun v s' => v ≠ .notImplemented ∧ Q v s') E) l r xs ys n n2 dd dd2 sl sl2 I P b turn last (fun s' q => ⟨(fun x => nomatch x), fin s' q⟩) ho ho2 h0 h
  exact wpAny_mono z (fun f s' q => by cases f <;> exact q) fun _ _ q => q

theorem rc_list_ne {l r : Addr} {n m : Nat} {Q : Value → Shared → Prop} (hu : A.units < cLine) (I : Shared → Prop) (P : Nat → Prop) (b : Bool) (p : Pairs prog w A E l r n m I P b) (hb : n ≠ m → b = false)
    (fin : ∀ s, I s → Q (.bool (!b)) s) (h0 : n = m → P 0) (h : I s) : wpAny (model prog w) A (richCompare .NotEq (.ref l) (.ref r)) Q E s := by
  obtain ⟨xs, ys, k1, k2, d1, d2, s1, s2, hl, hr, hx, hy, _⟩ := p.read s h
  by_cases hnm : n = m
  · refine wpAny_richCompare_same_room (op := .NotEq) ⟨_, hl, rfl⟩ ⟨_, hr, rfl⟩ F.slot_list_ne (GQ.call_here F.slot_list_ne ⟨_, hl, rfl⟩ F.entry_list_ne (F.args_list_ne_2 _ _) ?_) hu
    have z := list_ne_body (R := wants (fun v s' => v ≠ .notImplemented ∧ Q v s') E) l r n m I P b p hnm (fun s' q => ⟨(fun x => nomatch x), fin s' q⟩) (h0 hnm) h
    exact wpAny_mono z (fun f s' q => by cases f <;> exact q) fun _ _ q => q
  · have e : Q (.bool true) s := by
      have z := fin s h
      rw [hb hnm] at z
      exact z
    exact RcNeAt.lists_lengths ⟨_, hl, rfl, _, rfl⟩ ⟨_, hr, rfl, _, rfl⟩ (by rw [hx, hy]; simpa using hnm) hu prog w E Q e
theorem rc_tuple_ne {l r : Addr} {xs ys : Array Value} {Q : Value → Shared → Prop} (hu : A.units < cLine) (I : Shared → Prop) (P : Nat → Prop) (b : Bool) (hl : s.heap.IsTuple l xs) (hr : s.heap.IsTuple r ys)
    (turn : ∀ i (h1 : i < xs.size) (h2 : i < ys.size) s, P i → I s → wpAny (model prog w) A.in1 (eqBool xs[i] ys[i]) (fun r s' => I s' ∧ (r = true → P (i + 1)) ∧ (r = false → b = false)) E s)
    (last : ∀ i, P i → i ≤ xs.size → i ≤ ys.size → ¬ (i < xs.size ∧ i < ys.size) → b = (xs.size == ys.size)) (fin : ∀ s, I s → Q (.bool (!b)) s) (h0 : P 0) (h : I s) :
    wpAny (model prog w) A (richCompare .NotEq (.ref l) (.ref r)) Q E s := by
  obtain ⟨⟨cls, dd, data, sl⟩, ho, hc, n, hd⟩ := id hl
  obtain ⟨⟨cls2, dd2, data2, sl2⟩, ho2, hc2, n2, hd2⟩ := id hr
  simp only at hc hd hc2 hd2
  subst hc hd hc2 hd2
  refine wpAny_richCompare_same_room (op := .NotEq) ⟨_, ho, rfl⟩ ⟨_, ho2, rfl⟩ F.slot_tuple_ne (GQ.call_here F.slot_tuple_ne ⟨_, ho, rfl⟩ F.entry_tuple_ne (F.args_tuple_ne_2 _ _) ?_) hu
  have z := tuple_ne_body (R := wants (fun v s' => v ≠ .notImplemented ∧ Q v s') E) l r xs ys n n2 dd dd2 sl sl2 I P b turn last (fun s' q => ⟨(fun x => nomatch x), fin s' q⟩) ho ho2 h0 h
  exact wpAny_mono z (fun f s' q => by cases f <;> exact q) fun _ _ q => q
end
end Ce.SeqTwo
namespace Ce
open PySem PySem.Spec PyProof.Rows L2 Ce

/-! ### == and != of frozen values -/
/-- == (op: .Eq) or != (op: .NotEq) by the rich comparison, n levels of room -/
def QE (X : Cx) (T : Ct) (n : Nat) (ne : Bool) (q : D → D → Option Bool) : Prop :=
  ∀ (A : Around) (pins : List (Addr × Obj)) (s : Shared) (σ : L2.St) (H F : Hp) (x y : V) (u v : Value) (d1 d2 : D) (b : Bool) (Er : Value → Shared → Prop), Sub X n A → Inv X pins σ H s → Same F H → L2.RelV x u → L2.RelV y v → Is X.K T F x d1 → Is X.K T F y d2 → q d1 d2 = some b →
    wpAny (model X.prog X.w) A (richCompare (if ne then .NotEq else .Eq) u v) (fun r s' => r = .bool (b != ne) ∧ ∃ H' F', Inv X pins σ H' s' ∧ Nx H F H' F') Er s
/-- == inside a list or tuple: the same object is equal to itself -/
def QB (X : Cx) (T : Ct) (n : Nat) (q : D → D → Option Bool) : Prop :=
  ∀ (A : Around) (pins : List (Addr × Obj)) (s : Shared) (σ : L2.St) (H F : Hp) (x y : V) (u v : Value) (d1 d2 : D) (b : Bool) (Er : Value → Shared → Prop), Sub X n A → Inv X pins σ H s → Same F H → L2.RelV x u → L2.RelV y v → Is X.K T F x d1 → Is X.K T F y d2 → q d1 d2 = some b →
    wpAny (model X.prog X.w) A (eqBool u v) (fun r s' => r = b ∧ ∃ H' F', Inv X pins σ H' s' ∧ Nx H F H' F') Er s
def Refl (q : D → D → Option Bool) : Prop := ∀ d b, q d d = some b → b = true
theorem Nx.refl {H F : Hp} (f : Same F H) : Nx H F H F := ⟨Same.refl H, f, Gw.refl⟩

section
variable {X : Cx} {T : Ct} {n k c : Nat} {ne : Bool} {q q' : D → D → Option Bool} {f : Addr} {fd : FuncData} {ps : List Str} {m : En → Out D}
theorem QB.mono (h : QB X T n q) (hn : n ≤ k) : QB X T k q := fun A pins s σ H F x y u v d1 d2 b Er sb => h A pins s σ H F x y u v d1 d2 b Er (sb.mono hn)
theorem QE.mono (h : QE X T n ne q) (hn : n ≤ k) : QE X T k ne q := fun A pins s σ H F x y u v d1 d2 b Er sb => h A pins s σ H F x y u v d1 d2 b Er (sb.mono hn)
def orQ (q q' : D → D → Option Bool) : D → D → Option Bool := fun x y => match q x y with
  | some b => some b
  | none => q' x y
theorem QB.or (h : QB X T n q) (h' : QB X T n q') : QB X T n (orQ q q') := fun A pins s σ H F x y u v d1 d2 b Er sb I f rx ry i1 i2 e => by
  unfold orQ at e
  cases z : q d1 d2 with
  | none =>
    rw [z] at e
    exact h' A pins s σ H F x y u v d1 d2 b Er sb I f rx ry i1 i2 e
  | some r =>
    rw [z] at e
    exact h A pins s σ H F x y u v d1 d2 b Er sb I f rx ry i1 i2 (by rw [z]; exact e)
theorem Refl.or (h : Refl q) (h' : Refl q') : Refl (orQ q q') := fun d b e => by
  unfold orQ at e
  cases z : q d d with
  | none => rw [z] at e; exact h' d b e
  | some r =>
    rw [z] at e
    cases e
    exact h d _ z
/-! scalars -/
theorem seq_refl : Refl seq := by
  intro d b h
  cases d <;> simp_all [seq]
theorem qb_seq : QB X T 0 seq := by
  intro A pins s σ H F x y u v d1 d2 b Er sb I f rx ry i1 i2 e
  have z : flatV x = true ∧ flatV y = true ∧ eqV x y = b := by
    unfold seq at e
    split at e <;> (try cases e)
    · rw [i1.intI, i2.intI]; exact ⟨rfl, rfl, by rw [Bool.eq_iff_iff]; simp [eqV]⟩
    · rw [i1.strI, i2.strI]; exact ⟨rfl, rfl, by rw [Bool.eq_iff_iff]; simp [eqV]⟩
    · rw [i1.blI, i2.blI]; exact ⟨rfl, rfl, by rw [Bool.eq_iff_iff]; simp [eqV]⟩
    · rw [i1.nonI, i2.nonI]; exact ⟨rfl, rfl, by rw [Bool.eq_iff_iff]; simp [eqV]⟩
    · rw [i1.intI, i2.strI]; exact ⟨rfl, rfl, by rw [Bool.eq_iff_iff]; simp [eqV]⟩
    · rw [i1.strI, i2.intI]; exact ⟨rfl, rfl, by rw [Bool.eq_iff_iff]; simp [eqV]⟩
    · rw [i1.nonI, i2.intI]; exact ⟨rfl, rfl, by rw [Bool.eq_iff_iff]; simp [eqV]⟩
    · rw [i1.intI, i2.nonI]; exact ⟨rfl, rfl, by rw [Bool.eq_iff_iff]; simp [eqV]⟩
    · rw [i1.nonI, i2.strI]; exact ⟨rfl, rfl, by rw [Bool.eq_iff_iff]; simp [eqV]⟩
    · rw [i1.strI, i2.nonI]; exact ⟨rfl, rfl, by rw [Bool.eq_iff_iff]; simp [eqV]⟩
  obtain ⟨fx, fy, ev⟩ := z
  have t := eqAt_V (A := A) (s := s) rx ry fx fy
  rw [ev] at t
  exact t X.prog X.w Er _ ⟨rfl, H, F, I, Nx.refl f⟩
/-! instances by the program's own == -/
def qOwn (c : Nat) (m : En → Out D) : D → D → Option Bool := fun x y => match x, y with
  | .ins c1 xs, .ins c2 ys => if decide (c1 = c ∧ c2 = c) then (match m [some (.im (.ins c1 xs)), some (.im (.ins c2 ys))] with
    | .ok (.bl b) _ => some b
    | _ => none) else none
  | _, _ => none
structure EqOk (K : PySem.W.Frag) (T : Ct) (c : Nat) (f : Addr) : Prop where
  at_ : PySem.W.findIn K (.ref (T.cl c)) "__eq__" = some (some (.ref f))
  fn : PySem.W.isFn K (.ref f) = true
  ne : PySem.W.findIn K (.ref (T.cl c)) "__ne__" = some (some (.builtin "object.__ne__"))
  mro : PySem.W.mroIn K (T.cl c) (.type "object") = some true
theorem own_sp {H F : Hp} {x y : V} {d1 d2 : D} {b : Bool} {ρ : En} (f : Same F H) (i1 : Is X.K T F x d1) (i2 : Is X.K T F y d2) (e : m [some (.im d1), some (.im d2)] = .ok (.bl b) ρ) :
    spM X.K T 2 m [x, y] H (fun v H' => v = .bl b ∧ ∃ F', Nx H F H' F') noE := by
  have w0 : Wd X.K T H F H [] [] := ⟨Same.refl H, f, rfl, fun _ => [], fun i o z => by simp at z, fun i j a z => (by cases z), fun i a z => (by cases z)⟩
  have w := wd_args w0 (.cons i1 (.cons i2 .nil))
  refine ⟨rfl, H, F, _, w, ?_⟩
  show Post _ _ _ _ _ _ _ (m [some (.im d1), some (.im d2)]) _
  rw [e]
  exact fun F' H' v g w' i => ⟨i.blI, F', w'.b, w'.f, g⟩
theorem qe_own (k : EqOk X.K T c f) (F : FnM X T n f fd ps m) (hps : ps.length = 2) (hb : Dfl X.K T fd ps []) : QE X T n false (qOwn c m) := by
  intro A pins s σ H F0 x y u v d1 d2 b Er sb I hf rx ry i1 i2 e
  unfold qOwn at e
  split at e
  · split at e
    · rename_i c1 xs c2 ys hc
      obtain ⟨rfl, rfl⟩ := of_decide_eq_true hc
      split at e
      · rename_i b' ρ em
        cases e
        obtain ⟨a, dx, fs, rfl, ha, _, _⟩ := id i1.insI
        obtain ⟨a', dy, gs, rfl, ha', _, _⟩ := id i2.insI
        cases rx
        cases ry
        obtain ⟨mA, J, _⟩ := ins_get I.hok (hf _ _ ha)
        obtain ⟨mB, J', _⟩ := ins_get I.hok (hf _ _ ha')
        obtain ⟨od, J, _⟩ := J.look
        obtain ⟨od', J', _⟩ := J'.look
        obtain ⟨ml, hF⟩ := I.fr
        refine PySem.W.cmp_K (op := .Eq) (tb := .ref (T.cl c2)) sb.room.units0 hF I.ok.mod.kin J J'.type (by simp [PySem.W.notFirst]) k.at_ k.fn ?_
        refine wpAny_mono (run_sub (Q := fun v H' => v = .bl b ∧ ∃ F', Nx H F0 H' F') F sb hb I (.cons (show L2.RelV (.ref a) (.ref a) from rfl) (.cons (show L2.RelV (.ref a') (.ref a') from rfl) .nil)) (by rw [hps]; exact own_sp hf i1 i2 em)) (fun r s' z => ?_) fun _ _ z => z
        obtain ⟨w, H', I', rw', ew, F', nx⟩ := z
        subst ew
        cases rw'
        exact ⟨by simp, H', F', I', nx⟩
      · cases e
    · cases e
  · cases e
/-- != by object's own __ne__, which asks the program's == -/
theorem ifBound_ne {M : Model} {A : Around} {Er : Value → Shared → Prop} {s : Shared} {K : PySem.W.Frag} {x C : Addr} {ox : Obj} {od : Option Obj} {args : List Value} {Q : Option Value → Shared → Prop} (X : K.In s.heap) (I : PySem.W.InstAt s.heap x ox C od)
    (hs : PySem.W.findIn K (.ref C) "__ne__" = some (some (.builtin "object.__ne__"))) (h : wpAny M A (call (.builtin "object.__ne__") (.ref x :: args)) (fun v => Q (some v)) Er s) : wpAny M A (callSpecialIfBound? (.ref x) "__ne__" args) Q Er s := by
  simp only [callSpecialIfBound?, bindSpecialIfBound?]
  refine wpAny_holding (wpAny_bind (wpAny_bind (wpAny_bind (I.type.here ((PySem.W.looks_findIn X hs).here ?_)))))
  refine wpAny_bind (wpAny_askSetting (wpAny_ite ?_))
  have ends : wpAny M A (call (.builtin "object.__ne__") ([.ref x] ++ args) >>= fun v => pure (some v)) Q Er s := wpAny_bind (wpAny_mono h (fun v s' h' => wpAny_pure h') fun _ _ h' => h')
  split
  · exact wpAny_bind (wpAny_of_eq (F.cmp_object.ne.bind _) (wpAny_pure (by exact ends)))
  · exact wpAny_tryCatch (wpAny_bind (wpAny_of_eq (F.cmp_object.ne.bind _) (wpAny_pure (by exact ends))))
theorem ne_body {prog : Program} {w : World} {A : Around} {Er : Value → Shared → Prop} {s : Shared} {K : PySem.W.Frag} {x y C f : Addr} {ox : Obj} {od : Option Obj} {Q : Fin → Shared → Prop} (hu : A.units < cLine) (X : K.In s.heap) (I : PySem.W.InstAt s.heap x ox C od)
    (hs : PySem.W.findIn K (.ref C) "__eq__" = some (some (.ref f))) (hf : PySem.W.isFn K (.ref f) = true)
    (h : wpAny (model prog w) A (call (.ref f) [.ref x, .ref y]) (fun v s' => ∃ b, v = .bool b ∧ Q (.done (.ret (.bool (!b)))) s') Er s) : wpAny (model prog w) A (Builtin.«object.__ne__» ⟨[.ref x, .ref y], []⟩) Q Er s := by
  unfold Builtin.«object.__ne__»
  repeat (first
    | with_reducible refine wpAny_cRoomFor hu ?_
    | (refine wpAny_bind (m := callSpecialIfBound? (.ref x) (Str.ofString "__eq__") [.ref y]) (PySem.W.ifBound_K X I hs hf (wpAny_mono h (fun r s' hr => by
          obtain ⟨b, rfl, hq⟩ := hr
          repeat (first | exact hq | exact wpAny_pure hq | exact wpAny_truthy_bool hq | (refine wpAny_bind (m := truthy (.bool _)) (wpAny_truthy_bool ?_)) | wp_step)) fun _ _ e => e)))
    | wp_step)
theorem rc_ne {prog : Program} {w : World} {A : Around} {Er : Value → Shared → Prop} {s : Shared} {K : PySem.W.Frag} {x y C f : Addr} {ox oy : Obj} {od oe : Option Obj} {Q : Value → Shared → Prop} (hu : A.units + 1 < cLine) (X : K.In s.heap) (I : PySem.W.InstAt s.heap x ox C od) (J : PySem.W.InstAt s.heap y oy C oe)
    (k1 : PySem.W.findIn K (.ref C) "__ne__" = some (some (.builtin "object.__ne__"))) (k2 : PySem.W.mroIn K C (.type "object") = some true) (hs : PySem.W.findIn K (.ref C) "__eq__" = some (some (.ref f))) (hf : PySem.W.isFn K (.ref f) = true)
    (h : wpAny (model prog w) A.in1 (call (.ref f) [.ref x, .ref y]) (fun v s' => ∃ b, v = .bool b ∧ Q (.bool (!b)) s') Er s) : wpAny (model prog w) A (richCompare .NotEq (.ref x) (.ref y)) Q Er s := by
  have one : wpAny (model prog w) A (tryCompare (.ref x) "__ne__" (.ref y)) (fun r s' => ∃ b, r = some (.bool b) ∧ Q (.bool b) s') Er s := by
    unfold tryCompare
    refine wpAny_bind (ifBound_ne X I k1 (wpAny_call (codeAny_call_builtin F.cmp_object.ne.plain F.cmpEntry_ne (PySem.W.check_slot F.cmpKind_ne F.cmpSplit_ne (I.type.andThen (PySem.W.looks_mroIn X k2)) (F.cmpArgs_ne _ _) (ne_body (A := A.in1) hu X I hs hf (wpAny_mono h (fun v s' hv => ?_) fun _ _ e => e))))))
    obtain ⟨b, rfl, hq⟩ := hv
    first | exact ⟨b, rfl, wpAny_pure ⟨_, rfl, hq⟩⟩ | exact ⟨b, rfl, wpAny_pure (wpAny_pure ⟨_, rfl, hq⟩)⟩
  unfold richCompare
  simp only [oneThing_ref]
  refine wpAny_holding (wpAny_bind (wpAny_cRoomFor (Nat.lt_of_succ_lt hu) ?_))
  rw [cmpInfo_NotEq]
  dsimp only
  refine wpAny_bind (I.type.here (wpAny_bind (J.type.here ?_)))
  rw [show (Value.ref C != Value.ref C) = false from by simp]
  simp only [Bool.false_eq_true, if_false]
  refine wpAny_bind (wpAny_pure ?_)
  simp only [Bool.false_eq_true, if_false]
  refine wpAny_bind (wpAny_mono one (fun r s' z => ?_) fun _ _ e => e)
  obtain ⟨b, rfl, hq⟩ := z
  exact wpAny_pure hq
theorem qe_ownN (k : EqOk X.K T c f) (F : FnM X T n f fd ps m) (hps : ps.length = 2) (hb : Dfl X.K T fd ps []) : QE X T (n + 1) true (qOwn c m) := by
  intro A pins s σ H F0 x y u v d1 d2 b Er sb I hf rx ry i1 i2 e
  unfold qOwn at e
  split at e
  · split at e
    · rename_i c1 xs c2 ys hc
      obtain ⟨rfl, rfl⟩ := of_decide_eq_true hc
      split at e
      · rename_i b' ρ em
        cases e
        obtain ⟨a, dx, fs, rfl, ha, _, _⟩ := id i1.insI
        obtain ⟨a', dy, gs, rfl, ha', _, _⟩ := id i2.insI
        cases rx
        cases ry
        obtain ⟨mA, J, _⟩ := ins_get I.hok (hf _ _ ha)
        obtain ⟨mB, J', _⟩ := ins_get I.hok (hf _ _ ha')
        obtain ⟨od, J, _⟩ := J.look
        obtain ⟨od', J', _⟩ := J'.look
        refine rc_ne sb.in1.room.units0 I.kIn J J' k.ne k.mro k.at_ k.fn ?_
        refine wpAny_mono (run_sub (Q := fun v H' => v = .bl b ∧ ∃ F', Nx H F0 H' F') F sb.in1 hb I (.cons (show L2.RelV (.ref a) (.ref a) from rfl) (.cons (show L2.RelV (.ref a') (.ref a') from rfl) .nil)) (by rw [hps]; exact own_sp hf i1 i2 em)) (fun r s' z => ?_) fun _ _ z => z
        obtain ⟨w, H', I', rw', ew, F', nx⟩ := z
        subst ew
        cases rw'
        exact ⟨b, rfl, by simp, H', F', I', nx⟩
      · cases e
    · cases e
  · cases e
/-! from the rich comparison to == inside a list -/
theorem QE.qb (h : QE X T n false q) (hr : Refl q) (hT : T.Inj) (hq : ∀ d1 d2 b, q d1 d2 = some b → (∀ K F v, Is K T F v d1 → ∃ a, v = .ref a) ∧ ∀ K F v, Is K T F v d2 → ∃ a, v = .ref a) : QB X T n q := by
  intro A pins s σ H F x y u v d1 d2 b Er sb I f rx ry i1 i2 e
  obtain ⟨z1, z2⟩ := hq _ _ _ e
  obtain ⟨a, rfl⟩ := z1 _ _ _ i1
  obtain ⟨a', rfl⟩ := z2 _ _ _ i2
  by_cases hab : a = a'
  · subst hab
    cases rx
    cases ry
    cases Is.uniq (inv_tidy I f) hT i1 i2
    exact SeqAt.EqAt.same (A := A) (s := s) (.ref a) X.prog X.w Er _ ⟨(hr _ _ e).symm, H, F, I, Nx.refl f⟩
  · cases rx
    cases ry
    refine GQ.eqBool_refG hab (wpAny_mono (h A pins s σ H F _ _ _ _ d1 d2 b Er sb I f (show L2.RelV (.ref a) (.ref a) from rfl) (show L2.RelV (.ref a') (.ref a') from rfl) i1 i2 e) (fun r s' z => ?_) fun _ _ z => z)
    obtain ⟨hr', z⟩ := z
    exact ⟨b, by rw [hr']; simp, rfl, z⟩
theorem own_ref {d1 d2 : D} {b : Bool} (h : qOwn c m d1 d2 = some b) : (∀ K F v, Is K T F v d1 → ∃ a, v = .ref a) ∧ ∀ K F v, Is K T F v d2 → ∃ a, v = .ref a := by
  unfold qOwn at h
  split at h
  · exact ⟨fun K F v i => by obtain ⟨a, _, _, e, _⟩ := i.insI; exact ⟨a, e⟩, fun K F v i => by obtain ⟨a, _, _, e, _⟩ := i.insI; exact ⟨a, e⟩⟩
  · cases h
theorem qb_own (k : EqOk X.K T c f) (F : FnM X T n f fd ps m) (hps : ps.length = 2) (hb : Dfl X.K T fd ps []) (hr : Refl (qOwn c m)) (hT : T.Inj) : QB X T n (qOwn c m) := (qe_own k F hps hb).qb hr hT fun _ _ _ e => own_ref e
/-! pairs -/
def eqs (q : D → D → Option Bool) : List D → List D → Option Bool
  | [], [] => some true
  | [], _ :: _ => some false
  | _ :: _, [] => some false
  | x :: xs, y :: ys => match q x y with
    | some true => eqs q xs ys
    | r => r
theorem eqs_step {xs ys : List D} {i : Nat} {x y : D} {b : Bool} (h : eqs q (xs.drop i) (ys.drop i) = some b) (hx : xs[i]? = some x) (hy : ys[i]? = some y) : ∃ r, q x y = some r ∧ (r = true → eqs q (xs.drop (i + 1)) (ys.drop (i + 1)) = some b) ∧ (r = false → b = false) := by
  obtain ⟨h1, rfl⟩ := List.getElem?_eq_some_iff.mp hx
  obtain ⟨h2, rfl⟩ := List.getElem?_eq_some_iff.mp hy
  rw [List.drop_eq_getElem_cons h1, List.drop_eq_getElem_cons h2, eqs] at h
  split at h
  · rename_i z
    exact ⟨true, z, fun _ => h, fun z => by cases z⟩
  · rename_i z1 z2
    cases b with
    | true => exact absurd h z2
    | false => exact ⟨false, h, (fun z => by cases z), fun _ => rfl⟩
theorem eqs_last {xs ys : List D} {i : Nat} {b : Bool} (h : eqs q (xs.drop i) (ys.drop i) = some b) (hx : i ≤ xs.length) (hy : i ≤ ys.length) (n : ¬ (i < xs.length ∧ i < ys.length)) : b = (xs.length == ys.length) := by
  rcases Nat.lt_or_ge i xs.length with h1 | h1
  · have h2 : i = ys.length := by omega
    rw [List.drop_eq_getElem_cons h1, List.drop_of_length_le (l := ys) (by omega), eqs] at h
    cases h
    exact (beq_eq_false_iff_ne.mpr (by omega)).symm
  · have h1' : i = xs.length := by omega
    rw [List.drop_of_length_le (l := xs) (by omega)] at h
    rcases Nat.lt_or_ge i ys.length with h2 | h2
    · rw [List.drop_eq_getElem_cons h2, eqs] at h
      cases h
      exact (beq_eq_false_iff_ne.mpr (by omega)).symm
    · rw [List.drop_of_length_le (l := ys) (by omega), eqs] at h
      cases h
      exact (beq_iff_eq.mpr (by omega)).symm
theorem eqs_refl (hr : Refl q) : ∀ {xs : List D} {b : Bool}, eqs q xs xs = some b → b = true
  | [], b, h => by cases h; rfl
  | x :: xs, b, h => by
    rw [eqs] at h
    split at h
    · exact eqs_refl hr h
    · rename_i z
      cases b with
      | true => rfl
      | false => exact hr _ _ h
/-- the state while items are compared -/
def NxI (X : Cx) (pins : List (Addr × Obj)) (σ : L2.St) (H F : Hp) (s' : Shared) : Prop := ∃ H' F', Inv X pins σ H' s' ∧ Nx H F H' F'
theorem nx_turn (h : QB X T n q) {A : Around} (sb : Sub X (n + 1) A) {pins : List (Addr × Obj)} {σ : L2.St} {H F : Hp} {vs ws : List V} {xs ys : List D} {its its2 : List Value} {b : Bool} {Er : Value → Shared → Prop} (l1 : IsL X.K T F vs xs) (l2 : IsL X.K T F ws ys) (r1 : Vals vs its) (r2 : Vals ws its2)
    (i : Nat) (h1 : i < its.toArray.size) (h2 : i < its2.toArray.size) (s' : Shared) (hp : eqs q (xs.drop i) (ys.drop i) = some b) (I : NxI X pins σ H F s') :
    wpAny (model X.prog X.w) A.in1 (eqBool its.toArray[i] its2.toArray[i]) (fun r s2 => NxI X pins σ H F s2 ∧ (r = true → eqs q (xs.drop (i + 1)) (ys.drop (i + 1)) = some b) ∧ (r = false → b = false)) Er s' := by
  obtain ⟨H1, F1, I1, nx⟩ := I
  have k1 : i < vs.length := by rw [r1.length]; simpa using h1
  have k2 : i < ws.length := by rw [r2.length]; simpa using h2
  obtain ⟨u, hu, ru⟩ := r1.get (List.getElem?_eq_getElem k1)
  obtain ⟨v, hv, rv⟩ := r2.get (List.getElem?_eq_getElem k2)
  obtain ⟨d1, e1, i1⟩ := l1.getV (List.getElem?_eq_getElem k1)
  obtain ⟨d2, e2, i2⟩ := l2.getV (List.getElem?_eq_getElem k2)
  have g1 : its.toArray[i] = u := by
    have : its[i]? = some its.toArray[i] := by rw [List.getElem?_eq_getElem (by simpa using h1)]; simp
    rw [this] at hu
    exact Option.some.inj hu
  have g2 : its2.toArray[i] = v := by
    have : its2[i]? = some its2.toArray[i] := by rw [List.getElem?_eq_getElem (by simpa using h2)]; simp
    rw [this] at hv
    exact Option.some.inj hv
  obtain ⟨r, er, t1, t2⟩ := eqs_step hp e1 e2
  rw [g1, g2]
  refine wpAny_mono (h A.in1 pins s' σ H1 F1 _ _ u v d1 d2 r Er sb.in1 I1 nx.f ru rv (i1.mono nx.g.s) (i2.mono nx.g.s) er) (fun r' s2 z => ?_) fun _ _ z => z
  obtain ⟨rfl, H2, F2, I2, nx2⟩ := z
  exact ⟨⟨H2, F2, I2, nx.trans nx2⟩, t1, t2⟩
def qTup (q : D → D → Option Bool) : D → D → Option Bool := fun x y => match x, y with
  | .tup xs, .tup ys => eqs q xs ys
  | _, _ => none
def qLst (q : D → D → Option Bool) : D → D → Option Bool := fun x y => match x, y with
  | .lst xs, .lst ys => if decide (xs.length = ys.length) then eqs q xs ys else some false
  | _, _ => none
theorem Refl.tup (hr : Refl q) : Refl (qTup q) := fun d b h => by
  unfold qTup at h
  split at h
  · rename_i xs ys
    exact eqs_refl hr h
  · cases h
theorem Refl.lst (hr : Refl q) : Refl (qLst q) := fun d b h => by
  unfold qLst at h
  split at h
  · rename_i xs ys
    rw [decide_eq_true rfl] at h
    exact eqs_refl hr h
  · cases h
theorem qe_tup (h : QB X T n q) : QE X T (n + 1) ne (qTup q) := by
  intro A pins s σ H F x y u v d1 d2 b Er sb I f rx ry i1 i2 e
  unfold qTup at e
  split at e
  · rename_i xs ys
    obtain ⟨a, vs, rfl, s1, l1⟩ := i1.tupI
    obtain ⟨a', ws, rfl, s2, l2⟩ := i2.tupI
    cases rx
    cases ry
    obtain ⟨its, r1, t1, _⟩ := I.tuple (same_seq f s1)
    obtain ⟨its2, r2, t2, _⟩ := I.tuple (same_seq f s2)
    have z1 : its.toArray.size = xs.length := by rw [List.size_toArray, ← r1.length, l1.length]
    have z2 : its2.toArray.size = ys.length := by rw [List.size_toArray, ← r2.length, l2.length]
    cases ne with
    | false =>
      exact SeqTwo.rc_tuple_eq sb.room.units0 (NxI X pins σ H F) (fun i => eqs q (xs.drop i) (ys.drop i) = some b) b t1 t2 (fun i h1 h2 s' hp hi => nx_turn h sb l1 l2 r1 r2 i h1 h2 s' hp hi)
        (fun i hp h1 h2 h3 => by rw [z1, z2] at *; exact eqs_last hp h1 h2 h3) (fun s' hi => ⟨by simp, hi⟩) (by simpa using e) ⟨H, F, I, Nx.refl f⟩
    | true =>
      exact SeqTwo.rc_tuple_ne sb.room.units0 (NxI X pins σ H F) (fun i => eqs q (xs.drop i) (ys.drop i) = some b) b t1 t2 (fun i h1 h2 s' hp hi => nx_turn h sb l1 l2 r1 r2 i h1 h2 s' hp hi)
        (fun i hp h1 h2 h3 => by rw [z1, z2] at *; exact eqs_last hp h1 h2 h3) (fun s' hi => ⟨by simp, hi⟩) (by simpa using e) ⟨H, F, I, Nx.refl f⟩
  · cases e
theorem qe_lst (h : QB X T n q) : QE X T (n + 1) ne (qLst q) := by
  intro A pins s σ H F x y u v d1 d2 b Er sb I f rx ry i1 i2 e
  unfold qLst at e
  split at e
  · rename_i xs ys
    obtain ⟨a, vs, rfl, s1, l1⟩ := i1.lstI
    obtain ⟨a', ws, rfl, s2, l2⟩ := i2.lstI
    cases rx
    cases ry
    have p : SeqTwo.Pairs X.prog X.w A Er a a' xs.length ys.length (NxI X pins σ H F) (fun i => xs.length = ys.length ∧ eqs q (xs.drop i) (ys.drop i) = some b) b := by
      refine ⟨fun s' hi => ?_, fun i hp hn => ?_⟩
      · obtain ⟨H1, F1, I1, nx⟩ := id hi
        obtain ⟨its, r1, ⟨o, k, e1, c1, e2, e3⟩, _⟩ := I1.list (nx.h.seq (f.seq s1))
        obtain ⟨its2, r2, ⟨o2, k2, e4, c2, e5, e6⟩, _⟩ := I1.list (nx.h.seq (f.seq s2))
        have z1 : its.toArray.size = xs.length := by rw [List.size_toArray, ← r1.length, l1.length]
        have z2 : its2.toArray.size = ys.length := by rw [List.size_toArray, ← r2.length, l2.length]
        obtain ⟨oc, od, odt, osl⟩ := o
        obtain ⟨oc2, od2, odt2, osl2⟩ := o2
        simp only at c1 e2 e3 c2 e5 e6
        subst c1 e2 e3 c2 e5 e6
        refine ⟨its.toArray, its2.toArray, k, k2, _, _, _, _, e1, e4, z1, z2, fun i h1 h2 hp => ?_⟩
        exact wpAny_mono (nx_turn h sb l1 l2 r1 r2 i h1 h2 s' hp.2 hi) (fun r s2 z => ⟨z.1, fun t => ⟨hp.1, z.2.1 t⟩, z.2.2⟩) fun _ _ z => z
      · obtain ⟨hl, he⟩ := hp
        rw [List.drop_of_length_le (l := xs) (by omega), List.drop_of_length_le (l := ys) (by omega)] at he
        cases he
        exact (beq_iff_eq.mpr hl).symm
    have hb : xs.length ≠ ys.length → b = false := fun hn => by
      rw [decide_eq_false hn] at e
      cases e
      rfl
    have h0 : xs.length = ys.length → xs.length = ys.length ∧ eqs q (xs.drop 0) (ys.drop 0) = some b := fun hl => by
      rw [decide_eq_true hl] at e
      exact ⟨hl, by simpa using e⟩
    cases ne with
    | false => exact SeqTwo.rc_list_eq sb.room.units0 (NxI X pins σ H F) _ b p hb (fun s' hi => ⟨by simp, hi⟩) h0 ⟨H, F, I, Nx.refl f⟩
    | true => exact SeqTwo.rc_list_ne sb.room.units0 (NxI X pins σ H F) _ b p hb (fun s' hi => ⟨by simp, hi⟩) h0 ⟨H, F, I, Nx.refl f⟩
  · cases e
end

/-! ### as expressions -/
section
variable {X : Cx} {T : Ct} {W : WX} {n : Nat} {q : D → D → Option Bool}
def qEq (q : D → D → Option Bool) : D → D → En → Out D := fun x y => opt ((q x y).map D.bl)
def qNe (q : D → D → Option Bool) : D → D → En → Out D := fun x y => opt ((q x y).map fun k => D.bl (!k))
theorem of_qeq (h : QE X T n false q) (hr : Room n X.A) : OF X T W (compareOp .Eq) (qEq q) := by
  refine ⟨fun v1 v2 H Q => ∃ (F : Hp) (d1 d2 : D) (b : Bool), Same F H ∧ Is X.K T F v1 d1 ∧ Is X.K T F v2 d2 ∧ q d1 d2 = some b ∧ ∀ H' F', Nx H F H' F' → Q (.bl b) H', fun pins s σ H x y v u Q I rx ry z => ?_, fun B F H σ ρ Q v1 d1 v2 d2 w i1 i2 z => ?_⟩
  · obtain ⟨F, d1, d2, b, f, i1, i2, e, hq⟩ := z
    show wpAny (model X.prog X.w) X.A (richCompare .Eq v u) (EP X pins σ Q) X.xe s
    refine wpAny_mono (h X.A pins s σ H F x y v u d1 d2 b X.xe ⟨hr, rfl⟩ I f rx ry i1 i2 e) (fun r s' z => ?_) fun _ _ z => z
    obtain ⟨rfl, H', F', I', nx⟩ := z
    exact ⟨.bl b, H', I', by simp [L2.RelV], hq H' F' nx⟩
  · unfold qEq at z
    obtain ⟨d, e, g⟩ := opt_post z
    cases e' : q d1 d2 with
    | none => rw [e'] at e; cases e
    | some b =>
      rw [e'] at e
      cases e
      refine ⟨F, d1, d2, b, w.f, i1, i2, e', fun H' F' nx => ?_⟩
      obtain ⟨g2, w2⟩ := w.nx nx
      exact g F' H' _ g2 w2 (.bl b)
theorem of_qne (h : QE X T n true q) (hr : Room n X.A) : OF X T W (compareOp .NotEq) (qNe q) := by
  refine ⟨fun v1 v2 H Q => ∃ (F : Hp) (d1 d2 : D) (b : Bool), Same F H ∧ Is X.K T F v1 d1 ∧ Is X.K T F v2 d2 ∧ q d1 d2 = some b ∧ ∀ H' F', Nx H F H' F' → Q (.bl (!b)) H', fun pins s σ H x y v u Q I rx ry z => ?_, fun B F H σ ρ Q v1 d1 v2 d2 w i1 i2 z => ?_⟩
  · obtain ⟨F, d1, d2, b, f, i1, i2, e, hq⟩ := z
    show wpAny (model X.prog X.w) X.A (richCompare .NotEq v u) (EP X pins σ Q) X.xe s
    refine wpAny_mono (h X.A pins s σ H F x y v u d1 d2 b X.xe ⟨hr, rfl⟩ I f rx ry i1 i2 e) (fun r s' z => ?_) fun _ _ z => z
    obtain ⟨rfl, H', F', I', nx⟩ := z
    exact ⟨.bl (!b), H', I', by simp [L2.RelV], hq H' F' nx⟩
  · unfold qNe at z
    obtain ⟨d, e, g⟩ := opt_post z
    cases e' : q d1 d2 with
    | none => rw [e'] at e; cases e
    | some b =>
      rw [e'] at e
      cases e
      refine ⟨F, d1, d2, b, w.f, i1, i2, e', fun H' F' nx => ?_⟩
      obtain ⟨g2, w2⟩ := w.nx nx
      exact g F' H' _ g2 w2 (.bl (!b))
end
end Ce
namespace Ce
open PySem PySem.Spec PyProof.Rows L2 Ce

/-! ### operators by the program's own methods -/
structure BinOk (K : PySem.W.Frag) (T : Ct) (c : Nat) (op : Operator) (f : Addr) : Prop where
  first : PySem.W.selfFirst K (T.cl c) = true
  at_ : PySem.W.findIn K (.ref (T.cl c)) (PySem.dunder op.info.2) = some (some (.ref f))
  fn : PySem.W.isFn K (.ref f) = true
structure NegOk (K : PySem.W.Frag) (T : Ct) (c : Nat) (f : Addr) : Prop where
  at_ : PySem.W.findIn K (.ref (T.cl c)) "__neg__" = some (some (.ref f))
  fn : PySem.W.isFn K (.ref f) = true
def bin2 (c : Nat) (m : List D → En → Out D) (fa fb : En → Out D) : En → Out D := fun ρ => (fa ρ).bind fun x ρ => (fb ρ).bind fun y ρ => match x, y with
  | .ins c1 xs, .ins c2 ys => if decide (c1 = c ∧ c2 = c) then m [.ins c1 xs, .ins c2 ys] ρ else .er
  | _, _ => .er
def neg1 (c : Nat) (m : List D → En → Out D) (fa : En → Out D) : En → Out D := fun ρ => (fa ρ).bind fun x ρ => match x with
  | .ins c1 xs => if decide (c1 = c) then m [.ins c1 xs] ρ else .er
  | _ => .er
section
variable {X : Cx} {T : Ct} {W : WX} {c : Nat} {op : Operator} {f : Addr} {m : List D → En → Out D} {a b : Expr} {fa fb : En → Out D} {pos : Pos}
theorem pf_bin2 (k : BinOk X.K T c op f) (kf : KF X T W (.ref f) m) (ha : PF X T W a fa) (hb : PF X T W b fb) : PF X T W (.BinOp a op b pos) (bin2 c m fa fb) := by
  obtain ⟨r, cr, hp⟩ := kf
  obtain ⟨ta, hta, hpa⟩ := ha
  obtain ⟨tb, htb, hpb⟩ := hb
  refine ⟨fun σ H Q => ta σ H fun x H1 => tb σ H1 fun y H2 => ∃ a b dx dy fs gs, x = .ref a ∧ y = .ref b ∧ H2 a = some (.ins (T.cl c) dx fs) ∧ H2 b = some (.ins (T.cl c) dy gs) ∧ r σ [x, y] H2 Q, ⟨fun pins s σ H Q I h => ?_⟩, fun B F H σ ρ Q w q => ?_⟩
  · refine wpAny_BinOp (binT (R := fun x y H2 => ∃ a b dx dy fs gs, x = .ref a ∧ y = .ref b ∧ H2 a = some (.ins (T.cl c) dx fs) ∧ H2 b = some (.ins (T.cl c) dy gs) ∧ r σ [x, y] H2 Q) hta htb I h fun v u s2 x y H2 I2 rx ry q => ?_)
    obtain ⟨a', b', dx, dy, fs, gs, rfl, rfl, ea, eb, q⟩ := q
    cases rx
    cases ry
    obtain ⟨mA, J, _⟩ := ins_get I2.hok ea
    obtain ⟨mB, J', _⟩ := ins_get I2.hok eb
    obtain ⟨od, J, _⟩ := J.look
    obtain ⟨od', J', _⟩ := J'.look
    obtain ⟨ml, hF⟩ := I2.fr
    refine PySem.W.binop_K hF I2.ok.mod.kin J J'.type k.first k.at_ k.fn ?_
    refine wpAny_mono (cr pins s2 σ H2 [.ref a', .ref b'] [.ref a', .ref b'] Q I2 (.cons (show L2.RelV (.ref a') (.ref a') from rfl) (.cons (show L2.RelV (.ref b') (.ref b') from rfl) .nil)) q) (fun v s' z => ?_) fun _ _ z => z
    obtain ⟨z, H', I', rz, qz⟩ := z
    exact SlX.cmpback rz ⟨z, H', I', rz, qz⟩
  · refine hpa B F H σ ρ _ w (Post.step q fun x ρ1 F1 H1 v1 g1 w1 i1 q1 => ?_)
    refine hpb B F1 H1 σ ρ1 _ w1 (Post.step q1 fun y ρ2 F2 H2 v2 g2 w2 i2 q2 => ?_)
    cases x <;> try exact q2.elim
    cases y <;> try exact q2.elim
    rename_i c1 xs c2 ys
    dsimp only at q2
    split at q2
    · rename_i hc
      obtain ⟨rfl, rfl⟩ := of_decide_eq_true hc
      obtain ⟨a', dx, fs, rfl, ha', _, _⟩ := id (i1.mono g2.s).insI
      obtain ⟨b', dy, gs, rfl, hb', _, _⟩ := id i2.insI
      exact ⟨a', b', dx, dy, fs, gs, rfl, rfl, w2.f _ _ ha', w2.f _ _ hb', hp B F2 H2 σ ρ2 Q _ _ w2 (.cons (i1.mono g2.s) (.cons i2 .nil)) q2⟩
    · exact q2.elim
theorem pf_neg1 (k : NegOk X.K T c f) (kf : KF X T W (.ref f) m) (ha : PF X T W a fa) : PF X T W (.UnaryOp .USub a pos) (neg1 c m fa) := by
  obtain ⟨r, cr, hp⟩ := kf
  obtain ⟨ta, hta, hpa⟩ := ha
  refine ⟨fun σ H Q => ta σ H fun x H1 => ∃ a dx fs, x = .ref a ∧ H1 a = some (.ins (T.cl c) dx fs) ∧ r σ [x] H1 Q, ⟨fun pins s σ H Q I h => ?_⟩, fun B F H σ ρ Q w q => ?_⟩
  · refine UnaryOp_ (thn (hta.run pins s σ H _ I h) fun v s1 ⟨x, H1, I1, r1, a', dx, fs, ex, ea, q⟩ => ?_)
    subst ex
    cases r1
    obtain ⟨mA, J, _⟩ := ins_get I1.hok ea
    obtain ⟨od, J, _⟩ := J.look
    obtain ⟨ml, hF⟩ := I1.fr
    exact PySem.W.ksp_neg hF I1.ok.mod.kin J k.at_ k.fn (cr pins s1 σ H1 [.ref a'] [.ref a'] Q I1 (.cons (show L2.RelV (.ref a') (.ref a') from rfl) .nil) q)
  · refine hpa B F H σ ρ _ w (Post.step q fun x ρ1 F1 H1 v1 g1 w1 i1 q1 => ?_)
    cases x <;> try exact q1.elim
    rename_i c1 xs
    dsimp only at q1
    split at q1
    · rename_i hc
      obtain rfl := of_decide_eq_true hc
      obtain ⟨a', dx, fs, rfl, ha', _, _⟩ := id i1.insI
      exact ⟨a', dx, fs, rfl, w1.f _ _ ha', hp B F1 H1 σ ρ1 Q _ _ w1 (.cons i1 .nil) q1⟩
    · exact q1.elim
end

/-! ### static methods: x.a(..), x a class -/
structure StOk (K : PySem.W.Frag) (C : Addr) (mc : Value) (a : Str) (p g : Addr) : Prop where
  rd : PySem.W.readsIn K C mc = true
  ga : PySem.W.specialIn K (.ref C) "__getattribute__" = some (some (.builtin "type.__getattribute__"))
  at_ : PySem.W.findCls K (.ref C) mc a = some (.get (.builtin "staticmethod.__get__") (.ref p) .none (.ref C))
  rc : ∃ rest, PySem.W.recIn K p "staticmethod" = some (.ref g :: rest)
  kp : PySem.W.keepIn K (.ref g) = true
section
variable {X : Cx} {T : Ct} {W : WX} {m : List D → En → Out D} {x a : Str} {C p g : Addr} {mc : Value} {ps pos apos : Pos} {e : Expr} {es : List Expr} {gs : En → Out (List D)} {pl : Sem Bool}
theorem get_static {pins : List (Addr × Obj)} {σ : L2.St} {H : Hp} {s : Shared} {A : Around} {E : Value → Shared → Prop} {Q : Value × List Value → Shared → Prop} (I : Inv X pins σ H s) (k : StOk X.K C mc a p g)
    (h : ∀ s', Inv X pins σ H s' → Q (.ref g, []) s') : wpAny (model X.prog X.w) A (getMethod (.ref C) a pl) Q E s := by
  obtain ⟨rest, hp⟩ := k.rc
  refine PySem.W.method_cls I.kIn k.ga (PySem.W.cls_bind I.kIn k.rd k.at_ (wpAny_call (PySem.W.sm_get (s := { s with toks := s.toks + 1 }) I.kIn hp ?_)))
  exact PySem.W.handed_on rfl (h _ (I.tok _))
theorem pf_st (k : StOk X.K C mc a p g) (kf : KF X T W (.ref g) m) (hg : Gl X x) (hm : X.mg x = some (.ref C)) (ha : AF X T W (e :: es) gs) (hdb : (x == ("__debug__" : Str)) = false := by decide)
    (hst : starEach (e :: es) X.env = (false, eval e X.env) :: starEach es X.env := by rfl) (hpl : (backTo pos (starEach es X.env)).any (·.1) = false := by rfl)
    (ht : eval (.Call (.Attribute (.Name x ps) a apos) (e :: es) [] pos) X.env = (do
      let ov ← eval (.Name x ps) X.env
      standAt apos.atName
      let (f, first) ← holding [ov] (getMethod ov a pl)
      callWith pos f first (backTo pos (starEach (e :: es) X.env)) (backToKw pos (keywordEach [] X.env))) := by rfl) : PF X T W (.Call (.Attribute (.Name x ps) a apos) (e :: es) [] pos) (cl1 m gs) := by
  obtain ⟨r, cr, hp⟩ := kf
  obtain ⟨t, hta, hq⟩ := ha
  refine ⟨fun σ H Q => t σ H fun vs H1 => r σ vs H1 Q, ⟨fun pins s σ H Q I h => ?_⟩, fun B F H σ ρ Q w q => hq B F H σ ρ _ w (Post.step q fun ds ρ1 F1 H1 vs g1 w1 l1 q1 => hp B F1 H1 σ ρ1 Q vs ds w1 l1 q1)⟩
  refine PySem.W.methodCall_KW (pl := pl) (Q := EP X pins σ Q) ?_ ht
  refine ld_glob I hg hm ?_ hdb
  exact get_static I k fun s1 I1 => PySem.W.callWith_K (h₀ := X.base) I1.ok.mod.kin k.kp (thn (hta.run pos pins s1 σ H _ I1 h) fun us s2 ⟨vs, H2, I2, r2, q2⟩ => ⟨I2.kIn, cr pins s2 σ H2 us vs Q I2 r2 q2⟩) hst hpl
end

/-! ### isinstance -/
/-- a class whose instances isinstance can look at -/
structure InOk (K : PySem.W.Frag) (T : Ct) (c : Nat) : Prop where
  cls : Cls K (T.cl c)
  isi : SlX.SIsi K (T.cl c)
def dty (T : Ct) : D → Value
  | .non => .type "NoneType"
  | .bl _ => .type "bool"
  | .int _ => .type "int"
  | .str _ => .type "str"
  | .lst _ => .type "list"
  | .tup _ => .type "tuple"
  | .ins c _ => .ref (T.cl c)
  | .raw _ => .none
def tyOk (cs : List Nat) : D → Bool
  | .raw _ => false
  | .ins c _ => cs.contains c
  | _ => true
theorem ty_of {K : PySem.W.Frag} {T : Ct} {F H : Hp} {v : V} {d : D} {cs : List Nat} (i : Is K T F v d) (f : Same F H) (hc : ∀ c ∈ cs, InOk K T c) (h : tyOk cs d = true) : TyX K H v (dty T d) := by
  cases i with
  | non => exact .base .non
  | bl b => exact .base (.bl b)
  | int i => exact .base (.int i)
  | str s => exact .base (.str s)
  | raw v hv => cases h
  | lst s l =>
    rcases f.seq s with (s | ⟨o, s⟩) | ⟨o, its, n, e1, c1, _⟩
    · exact .base (.lst s)
    · exact .base (.frz s)
    · exact .kList e1 c1
  | tup s l =>
    rcases same_seq f s with (s | ⟨o, s⟩) | ⟨o, its, n, e1, c1, _⟩
    · exact .base (.tup s)
    · exact .fTuple s
    · exact .kTuple e1 c1
  | ins ha n l =>
    rename_i a dx c fs ds
    obtain ⟨k, k2⟩ := hc c (by simpa [tyOk] using h)
    exact .base (.ins (f _ _ ha) k k2.ca k2.cn k2.ct k2.cm)
section
variable {X : Cx} {T : Ct} {W : WX} {x y : Str} {p p2 pos : Pos} {e : Expr} {f : En → Out D} {cs : List Nat}
def isi1 (k : D → Option Bool) (f : En → Out D) : En → Out D := fun ρ => (f ρ).bind fun d ρ => match k d with
  | some b => .ok (.bl b) ρ
  | none => .er
theorem pf_isi1 {z : V} {u : Value} {k : D → Option Bool} (hz : ClsV z u) (hcs : ∀ c ∈ cs, InOk X.K T c) (hk : ∀ d b, k d = some b → tyOk cs d = true ∧ PySem.W.kitOne X.K (dty T d) u = some b) (he : PF X T W e f) (hy : PE X (.Name y p2) (tC z))
    (hg : Gl X x) (hm : X.mg x = none) (hv : bootBuiltins x = some (.builtin "isinstance")) (hn : x ≠ "__name__" := by decide) (hdb : (x == ("__debug__" : Str)) = false := by decide)
    (h1 : starEach [e, .Name y p2] X.env = (false, eval e X.env) :: starEach [.Name y p2] X.env := by rfl) (h2 : starEach [.Name y p2] X.env = (false, eval (.Name y p2) X.env) :: starEach [] X.env := by rfl)
    (hpl : (backTo pos (starEach [.Name y p2] X.env)).any (·.1) = false := by rfl) :
    PF X T W (.Call (.Name x p) [e, .Name y p2] [] pos) (isi1 k f) := by
  obtain ⟨t, ht, hp⟩ := he
  refine ⟨_, pe_callB call_isi hg hm hv (pa_cons ht (pa_cons hy pa_nil h2) h1) hn hdb h1 hpl, fun B F H σ ρ Q w q => hp B F H σ ρ _ w (Post.step q fun d ρ1 F1 H1 v g1 w1 i1 q1 => ?_)⟩
  cases ek : k d with
  | none => rw [ek] at q1; exact q1.elim
  | some b =>
    rw [ek] at q1
    obtain ⟨k1, k2⟩ := hk d b ek
    exact ⟨v, z, dty T d, u, b, rfl, hz, ty_of i1 w1.f hcs k1, k2, q1 F1 H1 (.bl b) Gw.refl w1 (.bl b)⟩
/-- a class of the program -/
structure IsC (K : PySem.W.Frag) (T : Ct) (c : Nat) (cs : List Nat) : Prop where
  own : ∀ c' ∈ cs, PySem.W.kitOne K (.ref (T.cl c')) (.ref (T.cl c)) = some (decide (c' = c))
  base : ∀ n ∈ ["NoneType", "bool", "int", "str", "list", "tuple"], PySem.W.kitOne K (.type n) (.ref (T.cl c)) = some false
def kIsC (c : Nat) (cs : List Nat) : D → Option Bool
  | .raw _ => none
  | .ins c' _ => if cs.contains c' then some (decide (c' = c)) else none
  | _ => some false
theorem pf_isC {c : Nat} (h : IsC X.K T c cs) (hcs : ∀ c ∈ cs, InOk X.K T c) (he : PF X T W e f) (hgy : Gl X y) (hmy : X.mg y = some (.ref (T.cl c)))
    (hg : Gl X x) (hm : X.mg x = none) (hv : bootBuiltins x = some (.builtin "isinstance")) (hdy : (y == ("__debug__" : Str)) = false := by decide) (hn : x ≠ "__name__" := by decide) (hdb : (x == ("__debug__" : Str)) = false := by decide)
    (h1 : starEach [e, .Name y p2] X.env = (false, eval e X.env) :: starEach [.Name y p2] X.env := by rfl) (h2 : starEach [.Name y p2] X.env = (false, eval (.Name y p2) X.env) :: starEach [] X.env := by rfl)
    (hpl : (backTo pos (starEach [.Name y p2] X.env)).any (·.1) = false := by rfl) :
    PF X T W (.Call (.Name x p) [e, .Name y p2] [] pos) (isi1 (kIsC c cs) f) := by
  refine pf_isi1 (ClsV.own _) hcs (fun d b hd => ?_) he (pe_glob hgy hmy rfl hdy) hg hm hv hn hdb h1 h2 hpl
  cases d with
  | raw v => cases hd
  | ins c' ds =>
    change (if cs.contains c' then some (decide (c' = c)) else none) = some b at hd
    split at hd
    · rename_i hc
      cases hd
      exact ⟨hc, h.own c' (by simpa using hc)⟩
    · cases hd
  | non => cases hd; exact ⟨rfl, h.base _ (by simp)⟩
  | bl b => cases hd; exact ⟨rfl, h.base _ (by simp)⟩
  | int b => cases hd; exact ⟨rfl, h.base _ (by simp)⟩
  | str b => cases hd; exact ⟨rfl, h.base _ (by simp)⟩
  | lst b => cases hd; exact ⟨rfl, h.base _ (by simp)⟩
  | tup b => cases hd; exact ⟨rfl, h.base _ (by simp)⟩
/-- a built-in type -/
def kIsT (n : String) (cs : List Nat) : D → Option Bool
  | .raw _ => none
  | .ins c' _ => if cs.contains c' then some false else none
  | .non => some false
  | .bl _ => some (decide (n = "bool" ∨ n = "int"))
  | .int _ => some (decide (n = "int"))
  | .str _ => some (decide (n = "str"))
  | .lst _ => some (decide (n = "list"))
  | .tup _ => some (decide (n = "tuple"))
theorem kit_tab : (["bool", "int", "str", "list", "tuple"].all fun n => decide (kitB "NoneType" n = some false) && decide (kitB "bool" n = some (decide (n = "bool" ∨ n = "int"))) && decide (kitB "int" n = some (decide (n = "int"))) && decide (kitB "str" n = some (decide (n = "str"))) &&
    decide (kitB "list" n = some (decide (n = "list"))) && decide (kitB "tuple" n = some (decide (n = "tuple")))) = true := by decide +kernel
theorem pf_isT {n : String} (hn5 : n ∈ ["bool", "int", "str", "list", "tuple"]) (hcs : ∀ c ∈ cs, InOk X.K T c) (hco : ∀ c ∈ cs, PySem.W.kitOne X.K (.ref (T.cl c)) (.type n) = some false) (he : PF X T W e f) (hgy : Gl X y) (hmy : X.mg y = none) (hvy : bootBuiltins y = some (.type n))
    (hg : Gl X x) (hm : X.mg x = none) (hv : bootBuiltins x = some (.builtin "isinstance")) (hny : y ≠ "__name__" := by decide) (hdy : (y == ("__debug__" : Str)) = false := by decide) (hn : x ≠ "__name__" := by decide) (hdb : (x == ("__debug__" : Str)) = false := by decide)
    (h1 : starEach [e, .Name y p2] X.env = (false, eval e X.env) :: starEach [.Name y p2] X.env := by rfl) (h2 : starEach [.Name y p2] X.env = (false, eval (.Name y p2) X.env) :: starEach [] X.env := by rfl)
    (hpl : (backTo pos (starEach [.Name y p2] X.env)).any (·.1) = false := by rfl) :
    PF X T W (.Call (.Name x p) [e, .Name y p2] [] pos) (isi1 (kIsT n cs) f) := by
  have tab := (List.all_eq_true.mp kit_tab) n hn5
  simp only [Bool.and_eq_true, decide_eq_true_eq] at tab
  obtain ⟨⟨⟨⟨⟨t1, t2⟩, t3⟩, t4⟩, t5⟩, t6⟩ := tab
  refine pf_isi1 (ClsV.ty n) hcs (fun d b hd => ?_) he (pe_bltn (v := .ty n) hgy hmy hvy rfl hny hdy) hg hm hv hn hdb h1 h2 hpl
  cases d with
  | raw v => cases hd
  | ins c' ds =>
    change (if cs.contains c' then some false else none) = some b at hd
    split at hd
    · rename_i hc
      cases hd
      exact ⟨hc, hco c' (by simpa using hc)⟩
    · cases hd
  | non => cases hd; exact ⟨rfl, kit_ty t1⟩
  | bl b => cases hd; exact ⟨rfl, kit_ty t2⟩
  | int b => cases hd; exact ⟨rfl, kit_ty t3⟩
  | str b => cases hd; exact ⟨rfl, kit_ty t4⟩
  | lst b => cases hd; exact ⟨rfl, kit_ty t5⟩
  | tup b => cases hd; exact ⟨rfl, kit_ty t6⟩
end

/-! ### calls with keywords -/
/-- keyword arguments, all frozen -/
structure KwF (X : Cx) (T : Ct) (W : WX) (kws : List Keyword) (f : En → Out (List D)) : Prop where
  ex : ∃ t, PK X kws t ∧ ∀ (B F H : Hp) (σ : L2.St) (ρ : En) (Q : List V → Hp → Prop), Wd X.K T B F H σ ρ → Post X.K T W B F σ (IsL X.K T) (f ρ) Q → t σ H Q
/-- the callable u with n positional arguments and the keywords ks, on frozen values -/
structure KFK (X : Cx) (T : Ct) (W : WX) (u : Value) (ks : List Str) (m : List D → List D → En → Out D) : Prop where
  ex : ∃ r, CalK X u ks r ∧ ∀ (B F H : Hp) (σ : L2.St) (ρ : En) (Q : VK) vs zs ds es, Wd X.K T B F H σ ρ → IsL X.K T F vs ds → IsL X.K T F zs es → Post X.K T W B F σ (Is X.K T) (m ds es ρ) Q → r σ vs zs H Q
end Ce
namespace Ce
open PySem PySem.Spec PyProof.Rows L2 Ce

/-- how statements end -/
inductive SOut where
  | nx (ρ : En) | rt (d : D) (ρ : En) | bk (ρ : En) | ct (ρ : En) | ex (x : Xn) (ρ : En) | er
/-- the slots bs stay -/
def Kp (bs : List Nat) (σ σ' : L2.St) : Prop := ∀ i ∈ bs, σ'[i]? = σ[i]?
theorem Kp.refl {bs : List Nat} {σ : L2.St} : Kp bs σ σ := fun _ _ => rfl
theorem Kp.trans {bs : List Nat} {σ σ1 σ2 : L2.St} (h : Kp bs σ σ1) (h' : Kp bs σ1 σ2) : Kp bs σ σ2 := fun i m => (h' i m).trans (h i m)
theorem Kp.set {bs : List Nat} {σ : L2.St} {i : Nat} {v : Option V} (h : bs.contains i = false) : Kp bs σ (σ.set i v) := fun j m => by
  rw [List.getElem?_set_ne]
  rintro rfl
  have z : bs.contains i = true := by simpa using m
  rw [h] at z
  cases z
/-- what is wanted of an end -/
def PostS (K : PySem.W.Frag) (T : Ct) (W : WX) (bs : List Nat) (B F : Hp) (σ : L2.St) (r : SOut) (E : Ends) : Prop := match r with
  | .nx ρ => ∀ F' H' σ', Gw B F F' → Kp bs σ σ' → Wd K T B F' H' σ' ρ → E.nx σ' H'
  | .bk ρ => ∀ F' H' σ', Gw B F F' → Kp bs σ σ' → Wd K T B F' H' σ' ρ → E.bk σ' H'
  | .ct ρ => ∀ F' H' σ', Gw B F F' → Kp bs σ σ' → Wd K T B F' H' σ' ρ → E.ct σ' H'
  | .rt d ρ => ∀ F' H' σ' v, Gw B F F' → Kp bs σ σ' → Wd K T B F' H' σ' ρ → Is K T F' v d → E.rt v H'
  | .ex x ρ => ∀ F' H' σ' c dd, Gw B F F' → Kp bs σ σ' → Wd K T B F' H' σ' ρ → ExIs K T F' H' c dd x → W c dd σ' H'
  | .er => False
structure ZF (X : Cx) (T : Ct) (W : WX) (bs : List Nat) (st : Stmt) (f : En → SOut) : Prop where
  ex : ∃ t, PS X st t ∧ ∀ (B F H : Hp) (σ : L2.St) (ρ : En) (E : Ends), Wd X.K T B F H σ ρ → PostS X.K T W bs B F σ (f ρ) E → t E σ H
structure ZFs (X : Cx) (T : Ct) (W : WX) (bs : List Nat) (st : List Stmt) (f : En → SOut) : Prop where
  ex : ∃ t, PSs X st t ∧ ∀ (B F H : Hp) (σ : L2.St) (ρ : En) (E : Ends), Wd X.K T B F H σ ρ → PostS X.K T W bs B F σ (f ρ) E → t E σ H

section
variable {K : PySem.W.Frag} {T : Ct} {W : WX} {bs : List Nat} {B F F' H H' : Hp} {σ σ' : L2.St} {E : Ends} {r : SOut}
theorem PostS.gw (h : PostS K T W bs B F σ r E) (g : Gw B F F') (k : Kp bs σ σ') : PostS K T W bs B F' σ' r E := by
  cases r with
  | nx ρ => exact fun F2 H2 σ2 g2 k2 => h F2 H2 σ2 (g.trans g2) (k.trans k2)
  | bk ρ => exact fun F2 H2 σ2 g2 k2 => h F2 H2 σ2 (g.trans g2) (k.trans k2)
  | ct ρ => exact fun F2 H2 σ2 g2 k2 => h F2 H2 σ2 (g.trans g2) (k.trans k2)
  | rt d ρ => exact fun F2 H2 σ2 v g2 k2 => h F2 H2 σ2 v (g.trans g2) (k.trans k2)
  | ex x ρ => exact fun F2 H2 σ2 c dd g2 k2 => h F2 H2 σ2 c dd (g.trans g2) (k.trans k2)
  | er => exact h
/-- an expression, then statements -/
def Out.st {α : Type} (r : Out α) (k : α → En → SOut) : SOut := match r with
  | .ok a ρ => k a ρ
  | .ex x ρ => .ex x ρ
  | .er => .er
theorem PostS.ofX {α : Type} {g : α → En → Prop} {r : Out α} {k : α → En → SOut} (h : PostS K T W bs B F σ (r.st k) E) (hi : ∀ a ρ, PostS K T W bs B F σ (k a ρ) E → g a ρ) : PostX K T W B F σ g r := by
  cases r with
  | ok a ρ => exact hi a ρ h
  | ex x ρ => exact fun F2 H2 c dd g2 w2 e2 => h F2 H2 σ c dd g2 Kp.refl w2 e2
  | er => exact h
theorem PostS.ofP {α β : Type} {R : Hp → β → α → Prop} {Q : β → Hp → Prop} {r : Out α} {k : α → En → SOut} (h : PostS K T W bs B F σ (r.st k) E) (hi : ∀ a ρ F' H' b, Gw B F F' → Wd K T B F' H' σ ρ → R F' b a → PostS K T W bs B F' σ (k a ρ) E → Q b H') : Post K T W B F σ R r Q :=
  h.ofX fun a ρ h F' H' b g w i => hi a ρ F' H' b g w i (h.gw g Kp.refl)
/-- statements, one behind another -/
def SOut.sq (r : SOut) (k : En → SOut) : SOut := match r with
  | .nx ρ => k ρ
  | r => r
theorem PostS.sq {k : En → SOut} {N : L2.St → Hp → Prop} (h : PostS K T W bs B F σ (r.sq k) E) (hi : ∀ ρ F' H' σ', Gw B F F' → Kp bs σ σ' → Wd K T B F' H' σ' ρ → PostS K T W bs B F' σ' (k ρ) E → N σ' H') : PostS K T W bs B F σ r { E with nx := N } := by
  cases r with
  | nx ρ => exact fun F2 H2 σ2 g2 k2 w2 => hi ρ F2 H2 σ2 g2 k2 w2 (PostS.gw h g2 k2)
  | bk ρ => exact h
  | ct ρ => exact h
  | rt d ρ => exact h
  | ex x ρ => exact h
  | er => exact h
end

section
variable {X : Cx} {T : Ct} {W : WX} {bs : List Nat} {e : Expr} {f : En → Out D} {pos p : Pos} {st : Stmt} {rest : List Stmt} {fs gs : En → SOut}
/-! ### blocks -/
def sNil : En → SOut := fun ρ => .nx ρ
def sCons (f g : En → SOut) : En → SOut := fun ρ => (f ρ).sq g
theorem zs_nil : ZFs X T W bs [] sNil := ⟨_, pss_nil, fun B F H σ ρ E w q => q F H σ Gw.refl Kp.refl w⟩
theorem zs_cons (h1 : ZF X T W bs st fs) (h2 : ZFs X T W bs rest gs) : ZFs X T W bs (st :: rest) (sCons fs gs) := by
  obtain ⟨t, ht, hp⟩ := h1
  obtain ⟨u, hu, hq⟩ := h2
  exact ⟨_, pss_cons ht hu, fun B F H σ ρ E w q => hp B F H σ ρ _ w (PostS.sq q fun ρ' F' H' σ' g k w' q' => hq B F' H' σ' ρ' E w' q')⟩
theorem zs_one (h1 : ZF X T W bs st fs) : ZFs X T W bs [st] fs := by
  obtain ⟨t, ht, hp⟩ := h1
  exact ⟨_, pss_one ht, hp⟩
/-! ### small statements -/
def sRet (f : En → Out D) : En → SOut := fun ρ => (f ρ).st fun d ρ => .rt d ρ
theorem z_ret (h : PF X T W e f) : ZF X T W bs (.Return (some e) pos) (sRet f) := by
  obtain ⟨t, ht, hp⟩ := h
  exact ⟨_, ps_ret ht, fun B F H σ ρ E w q => hp B F H σ ρ _ w (PostS.ofP q fun d ρ1 F1 H1 v g1 w1 i1 q1 => q1 F1 H1 σ v Gw.refl Kp.refl w1 i1)⟩
def sRetN : En → SOut := fun ρ => .rt .non ρ
theorem z_retN : ZF X T W bs (.Return none pos) sRetN := ⟨_, ps_retN, fun B F H σ ρ E w q => q F H σ .non Gw.refl Kp.refl w .non⟩
theorem z_pass : ZF X T W bs (.Pass pos) sNil := ⟨_, ps_pass, fun B F H σ ρ E w q => q F H σ Gw.refl Kp.refl w⟩
def sBk : En → SOut := fun ρ => .bk ρ
def sCt : En → SOut := fun ρ => .ct ρ
theorem z_break : ZF X T W bs (.Break pos) sBk := ⟨_, ps_break, fun B F H σ ρ E w q => q F H σ Gw.refl Kp.refl w⟩
theorem z_cont : ZF X T W bs (.Continue pos) sCt := ⟨_, ps_continue, fun B F H σ ρ E w q => q F H σ Gw.refl Kp.refl w⟩
def sExpr (f : En → Out D) : En → SOut := fun ρ => (f ρ).st fun _ ρ => .nx ρ
theorem z_expr (h : PF X T W e f) (hs : swapsWith e none pos.line X.env = pure false := by rfl) : ZF X T W bs (.Expr e pos) (sExpr f) := by
  obtain ⟨t, ht, hp⟩ := h
  exact ⟨_, ps_expr ht hs, fun B F H σ ρ E w q => hp B F H σ ρ _ w (PostS.ofP q fun d ρ1 F1 H1 v g1 w1 i1 q1 => q1 F1 H1 σ Gw.refl Kp.refl w1)⟩
/-- code that is not reached -/
def sEr : En → SOut := fun _ => .er
theorem z_never : ZF X T W bs st sEr := ⟨_, ps_never, fun B F H σ ρ E w q => q.elim⟩
theorem zs_never : ZFs X T W bs rest sEr := ⟨_, pss_never, fun B F H σ ρ E w q => q.elim⟩
def sIf (c : En → Out Bool) (f g : En → SOut) : En → SOut := fun ρ => (c ρ).st fun b ρ => match b with
  | true => f ρ
  | false => g ρ
theorem z_if {c : Expr} {fc : En → Out Bool} {a b : List Stmt} (hc : TF X T W c fc) (ha : ZFs X T W bs a fs) (hb : ZFs X T W bs b gs) : ZF X T W bs (.If c a b pos) (sIf fc fs gs) := by
  obtain ⟨t, ht, hp⟩ := hc
  obtain ⟨u, hu, hq⟩ := ha
  obtain ⟨v, hv, hr⟩ := hb
  refine ⟨_, ps_if ht hu hv, fun B F H σ ρ E w q => hp B F H σ ρ _ w (PostS.ofP q fun d ρ1 F1 H1 b g1 w1 i1 q1 => ?_)⟩
  cases i1
  cases d with
  | true => exact hq B F1 H1 σ ρ1 E w1 q1
  | false => exact hr B F1 H1 σ ρ1 E w1 q1
/-! ### names are set -/
theorem Wd.putIm' {K : PySem.W.Frag} {B F H : Hp} {σ : L2.St} {ρ : En} {v : V} {d : D} {i : Nat} (w : Wd K T B F H σ ρ) (q : Is K T F v d) : Wd K T B F H (σ.set i (some v)) (ρ.set i (some (.im d))) := by
  by_cases h : i < σ.length
  · exact w.putIm q h
  · rw [List.set_eq_of_length_le (by omega), List.set_eq_of_length_le (by have := w.l; omega)]
    exact w
def sSet (i : Nat) (f : En → Out D) : En → SOut := fun ρ => (f ρ).st fun d ρ => .nx (ρ.set i (some (.im d)))
theorem z_set {i : Nat} {x : Str} (hN : X.N.Nodup) (hi : X.N[i]? = some x) (hx : Loc X.env.scope x) (h : PF X T W e f) (hs : swapsWith e (some (.Name x p)) pos.line X.env = pure false := by rfl)
    (hb : bs.contains i = false := by rfl) (hf : X.fn x = true ∨ X.env.scope.names.lookup x = some .local := by first | exact .inl rfl | exact .inr rfl | assumption) : ZF X T W bs (.Assign [.Name x p] e pos) (sSet i f) := by
  obtain ⟨t, ht, hp⟩ := h
  refine ⟨_, ps_set hN hi hx ht hs hf, fun B F H σ ρ E w q => hp B F H σ ρ _ w (PostS.ofP q fun d ρ1 F1 H1 v g1 w1 i1 q1 => ?_)⟩
  exact q1 F1 H1 _ Gw.refl (Kp.set hb) (w1.putIm' i1)
/-- .. to a new list, which the slot owns -/
def sSetN (i : Nat) (f : En → Out (List D)) : En → SOut := fun ρ => (f ρ).st fun ds ρ => .nx (ρ.set i (some (.ol ds)))
theorem z_setN {i : Nat} {x : Str} {f : En → Out (List D)} (hN : X.N.Nodup) (hi : X.N[i]? = some x) (hx : Loc X.env.scope x) (h : PN X T W e f) (hs : swapsWith e (some (.Name x p)) pos.line X.env = pure false := by rfl)
    (hbs : bs.contains i = false := by rfl) (hf : X.fn x = true ∨ X.env.scope.names.lookup x = some .local := by first | exact .inl rfl | exact .inr rfl | assumption) : ZF X T W bs (.Assign [.Name x p] e pos) (sSetN i f) := by
  obtain ⟨t, ht, hp⟩ := h
  refine ⟨_, ps_set hN hi hx ht hs hf, fun B F H σ ρ E w q => hp B F H σ ρ _ w (PostS.ofX q fun ds ρ1 q1 F1 H1 a vs g1 hb hf1 w1 l1 => ?_)⟩
  refine q1 F1 H1 _ g1 (Kp.set hbs) ?_
  by_cases h : i < σ.length
  · exact w1.give hb hf1 l1 h
  · rw [List.set_eq_of_length_le (by omega), List.set_eq_of_length_le (by have := w1.l; omega)]
    exact w1.less (same_upd hb)
/-! ### targets: only the slots ts are touched -/
structure Only (ts : List Nat) (σ σ' : L2.St) : Prop where
  l : σ'.length = σ.length
  o : ∀ j, ts.contains j = false → σ'[j]? = σ[j]?
theorem Only.kp {ts bs : List Nat} {σ σ' : L2.St} (h : Only ts σ σ') (hd : (ts.all fun i => !bs.contains i) = true) : Kp bs σ σ' := fun i m => h.o i (by
  cases z : ts.contains i with
  | false => rfl
  | true =>
    have y := List.all_eq_true.mp hd i (by simpa using z)
    simp at y
    exact absurd m y)
structure GF (X : Cx) (T : Ct) (ts : List Nat) (tg : Expr) (g : D → En → Option En) : Prop where
  ex : ∃ t, PG X tg t ∧ ∀ (B F H : Hp) (σ : L2.St) (ρ ρ' : En) (v : V) (d : D) (Q : L2.St → Hp → Prop), Wd X.K T B F H σ ρ → Is X.K T F v d → g d ρ = some ρ' → (∀ σ', Only ts σ σ' → Wd X.K T B F H σ' ρ' → Q σ' H) → t v σ H Q
structure GFs (X : Cx) (T : Ct) (ts : List Nat) (tg : List Expr) (g : List D → En → Option En) : Prop where
  ex : ∃ t, PGs X tg t ∧ ∀ (B F H : Hp) (σ : L2.St) (ρ ρ' : En) (vs : List V) (ds : List D) (Q : L2.St → Hp → Prop), Wd X.K T B F H σ ρ → IsL X.K T F vs ds → g ds ρ = some ρ' → (∀ σ', Only ts σ σ' → Wd X.K T B F H σ' ρ' → Q σ' H) → t vs σ H Q
def gN (i : Nat) : D → En → Option En := fun d ρ => some (ρ.set i (some (.im d)))
theorem gf_name {i : Nat} {x : Str} (hN : X.N.Nodup) (hi : X.N[i]? = some x) (hx : Loc X.env.scope x) (hf : X.fn x = true ∨ X.env.scope.names.lookup x = some .local := by first | exact .inl rfl | exact .inr rfl | assumption) : GF X T [i] (.Name x p) (gN i) := by
  refine ⟨_, pg_name hN hi hx hf, fun B F H σ ρ ρ' v d Q w q e h => ?_⟩
  cases e
  exact h _ ⟨by simp, fun j hj => List.getElem?_set_ne (by rintro rfl; simp at hj)⟩ (w.putIm' q)
def gsN : List D → En → Option En := fun ds ρ => match ds with
  | [] => some ρ
  | _ => none
def gsC (g : D → En → Option En) (gs : List D → En → Option En) : List D → En → Option En := fun ds ρ => match ds with
  | [] => none
  | d :: ds => (g d ρ).bind (gs ds)
theorem gfs_nil : GFs X T [] [] gsN := by
  refine ⟨_, pgs_nil, fun B F H σ ρ ρ' vs ds Q w l e h => ?_⟩
  cases l with
  | nil => cases e; exact ⟨rfl, h σ ⟨rfl, fun _ _ => rfl⟩ w⟩
  | cons _ _ => cases e
theorem gfs_cons {t1 t2 : List Nat} {tg : Expr} {tgs : List Expr} {g : D → En → Option En} {gs : List D → En → Option En} (h1 : GF X T t1 tg g) (h2 : GFs X T t2 tgs gs) (hs : (assignEach (tg :: tgs) X.env).map (·.2) = assign tg X.env :: (assignEach tgs X.env).map (·.2) := by rfl) : GFs X T (t1 ++ t2) (tg :: tgs) (gsC g gs) := by
  obtain ⟨t, ht, hp⟩ := h1
  obtain ⟨u, hu, hq⟩ := h2
  refine ⟨_, pgs_cons ht hu hs, fun B F H σ ρ ρ' vs ds Q w l e h => ?_⟩
  cases l with
  | nil => cases e
  | cons i l =>
    obtain ⟨ρ1, e1, e2⟩ := Option.bind_eq_some_iff.mp e
    exact ⟨_, _, rfl, hp B F H σ ρ ρ1 _ _ _ w i e1 fun σ1 k1 w1 => hq B F H σ1 ρ1 ρ' _ _ Q w1 l e2 fun σ2 k2 w2 => h σ2 ⟨k2.l.trans k1.l, fun j hj => by
      simp only [List.contains_append, Bool.or_eq_false_iff] at hj
      exact (k2.o j hj.2).trans (k1.o j hj.1)⟩ w2⟩
def gT (n : Nat) (gs : List D → En → Option En) : D → En → Option En := fun d ρ => match d with
  | .tup ds => if decide (ds.length = n) then gs ds ρ else none
  | _ => none
theorem gf_tup {ts : List Nat} {tgs : List Expr} {k n : Nat} {gs : List D → En → Option En} (hc : X.calm = true) (h : GFs X T ts tgs gs) (hn : (assignEach tgs X.env).length = n := by rfl) (hst : (assignEach tgs X.env).findIdx? (·.1) = none := by rfl) : GF X T ts (.Tuple tgs k pos) (gT n gs) := by
  obtain ⟨t, ht, hp⟩ := h
  refine ⟨_, pg_tup hc ht hn hst, fun B F H σ ρ ρ' v d Q w i e h => ?_⟩
  unfold gT at e
  split at e
  · rename_i ds
    split at e
    · rename_i hl
      obtain ⟨a, vs, rfl, s, l⟩ := i.tupI
      exact ⟨a, vs, rfl, same_seq w.f s, by rw [l.length]; exact of_decide_eq_true hl, hp B F H σ ρ ρ' vs ds Q w l e h⟩
    · cases e
  · cases e
def sAsg (f : En → Out D) (g : D → En → Option En) : En → SOut := fun ρ => (f ρ).st fun d ρ => match g d ρ with
  | some ρ => .nx ρ
  | none => .er
theorem z_asg {ts : List Nat} {tg : Expr} {g : D → En → Option En} (h : PF X T W e f) (hg : GF X T ts tg g) (hd : (ts.all fun i => !bs.contains i) = true := by rfl) (hs : swapsWithSole [tg] e pos.line X.env = pure false := by rfl) (hw : swappedStores [tg] e X.env = pure none := by rfl)
    (h1 : (assignEach [tg] X.env).map (·.2) = [assign tg X.env] := by rfl) : ZF X T W bs (.Assign [tg] e pos) (sAsg f g) := by
  obtain ⟨t, ht, hp⟩ := h
  obtain ⟨u, hu, hq⟩ := hg
  refine ⟨_, ps_asg ht hu hs hw h1, fun B F H σ ρ E w q => hp B F H σ ρ _ w (PostS.ofP q fun d ρ1 F1 H1 v g1 w1 i1 q1 => ?_)⟩
  cases e' : g d ρ1 with
  | none => rw [e'] at q1; exact q1.elim
  | some ρ2 =>
    rw [e'] at q1
    exact hq B F1 H1 σ ρ1 ρ2 v d E.nx w1 i1 e' fun σ' k' w' => q1 F1 H1 σ' Gw.refl (k'.kp hd) w'
/-! ### while -/
def whL (c : En → Out Bool) (b : En → SOut) : Nat → En → SOut
  | 0, _ => .er
  | n + 1, ρ => (c ρ).st fun k ρ => match k with
    | true => (match b ρ with
      | .nx ρ => whL c b n ρ
      | .ct ρ => whL c b n ρ
      | .bk ρ => .nx ρ
      | r => r)
    | false => .nx ρ
theorem z_while {c : Expr} {body : List Stmt} {fc : En → Out Bool} (n : Nat) (hp : PassesOwn (model X.prog X.w) X.A X.env X.xe) (hc : TF X T W c fc) (hb : ZFs X T W bs body fs) : ZF X T W bs (.While c body [] pos) (whL fc fs n) := by
  obtain ⟨t, ht, hpc⟩ := hc
  obtain ⟨u, hu, hq⟩ := hb
  refine ⟨_, ps_while hp ht hu, fun B F H σ ρ E w q => ?_⟩
  refine ⟨fun m σ1 H1 => ∃ F1 ρ1, Wd X.K T B F1 H1 σ1 ρ1 ∧ PostS X.K T W bs B F1 σ1 (whL fc fs m ρ1) E, ⟨n, F, ρ, w, q⟩, fun m σ1 H1 ⟨F1, ρ1, w1, q1⟩ => ?_⟩
  cases m with
  | zero => exact q1.elim
  | succ m =>
    refine hpc B F1 H1 σ1 ρ1 _ w1 (PostS.ofP q1 fun d ρ2 F2 H2 b g2 w2 i2 q2 => ?_)
    cases i2
    cases d with
    | true =>
      rw [if_pos rfl]
      refine ⟨fun σ' H' => ∃ F1 ρ1, Wd X.K T B F1 H' σ' ρ1 ∧ PostS X.K T W bs B F1 σ' (whL fc fs m ρ1) E, fun σ' H' h => ⟨m, Nat.lt_succ_self m, h⟩, hq B F2 H2 σ1 ρ2 _ w2 ?_⟩
      dsimp only at q2
      revert q2
      cases fs ρ2 with
      | nx ρ3 => exact fun q2 F3 H3 σ3 g3 k3 w3 => ⟨F3, ρ3, w3, q2.gw g3 k3⟩
      | ct ρ3 => exact fun q2 F3 H3 σ3 g3 k3 w3 => ⟨F3, ρ3, w3, q2.gw g3 k3⟩
      | bk ρ3 => exact id
      | rt d ρ3 => exact id
      | ex x ρ3 => exact id
      | er => exact id
    | false =>
      rw [if_neg Bool.false_ne_true]
      exact q2 F2 H2 σ1 Gw.refl Kp.refl w2
end
end Ce
namespace Ce
open PySem PySem.Spec PyProof.Rows L2 Ce

/-! ### what a loop walks -/
/-- an item comes: the i-th of ds -/
def Came (K : PySem.W.Frag) (T : Ct) (F : Hp) (ds : List D) (Y : Nat → Hp → V → Hp → Prop) : Prop :=
  ∀ i H x H1, i < ds.length → Y i H x H1 → ∀ (B F2 : Hp) (σ : L2.St) (ρ : En), Same F F2 → Wd K T B F2 H σ ρ → ∃ F3 d, ds[i]? = some d ∧ Gw B F2 F3 ∧ Wd K T B F3 H1 σ ρ ∧ Is K T F3 x d
def goodI (K : PySem.W.Frag) (T : Ct) (B F : Hp) (σ : L2.St) (R : It → Hp → Prop) (ds : List D) (ρ : En) : Prop :=
  ∀ F' H' J G Y, Gw B F F' → Wd K T B F' H' σ ρ → Walk J ds.length G Y → (∀ H2, Same F' H2 → G H2) → Came K T F' ds Y → R J H'
structure IF (X : Cx) (T : Ct) (W : WX) (tg iter : Expr) (f : En → Out (List D)) : Prop where
  ex : ∃ wi, PI X tg iter wi ∧ ∀ (B F H : Hp) (σ : L2.St) (ρ : En) (R : It → Hp → Prop), Wd X.K T B F H σ ρ → PostX X.K T W B F σ (goodI X.K T B F σ R) (f ρ) → wi σ H R
section
variable {K : PySem.W.Frag} {T : Ct} {F : Hp}
theorem came_at {vs : List V} {ds : List D} (l : IsL K T F vs ds) : Came K T F ds (YAt vs) := fun i H x H1 _ ⟨e, y⟩ B F2 σ ρ s w => by
  obtain ⟨d, ed, i⟩ := l.getV y
  subst e
  exact ⟨F2, d, ed, Gw.refl, w, i.mono s⟩
end
section
variable {X : Cx} {T : Ct} {W : WX} {tg e a b c : Expr} {f : En → Out D} {pos p p2 : Pos}
/-- over a list, a tuple -/
def itL (f : En → Out D) : En → Out (List D) := fun ρ => (f ρ).bind fun d ρ => match d with
  | .lst ds => .ok ds ρ
  | _ => .er
def itT (f : En → Out D) : En → Out (List D) := fun ρ => (f ρ).bind fun d ρ => match d with
  | .tup ds => .ok ds ρ
  | _ => .er
theorem if_list (h : PF X T W e f) : IF X T W tg e (itL f) := by
  obtain ⟨t, ht, hp⟩ := h
  refine ⟨_, pi_list ht, fun B F H σ ρ R w q => hp B F H σ ρ _ w ((PostX.bind q).imp fun d ρ1 z0 q1 F1 H1 v g1 w1 i1 => ?_)⟩
  clear z0
  cases d <;> try exact q1.elim
  rename_i ds
  obtain ⟨a', vs, rfl, s, l⟩ := i1.lstI
  exact ⟨a', rfl, ⟨vs, w1.f.seq s⟩, q1 F1 H1 _ _ _ g1 w1 (l.length ▸ walk_list) (fun H2 f2 => f2.seq s) (came_at l)⟩
theorem if_tup (h : PF X T W e f) : IF X T W tg e (itT f) := by
  obtain ⟨t, ht, hp⟩ := h
  refine ⟨_, pi_tup ht, fun B F H σ ρ R w q => hp B F H σ ρ _ w ((PostX.bind q).imp fun d ρ1 z0 q1 F1 H1 v g1 w1 i1 => ?_)⟩
  clear z0
  cases d <;> try exact q1.elim
  rename_i ds
  obtain ⟨a', vs, rfl, s, l⟩ := i1.tupI
  exact ⟨a', rfl, ⟨vs, same_seq w1.f s⟩, q1 F1 H1 _ _ _ g1 w1 (l.length ▸ walk_tup) (fun H2 f2 => same_seq f2 s) (came_at l)⟩
/-- over a list or a tuple -/
theorem pi_both {l : Expr} {tl : TE} (hl : PE X l tl) : PI X tg l (fun σ H R => tl σ H fun x H1 => ∃ a, x = .ref a ∧ (((∃ xs, SqL X.K H1 a xs) ∧ R (Itl X.K a) H1) ∨ ((∃ xs, SqT X.K H1 a xs) ∧ R (Itt X.K a) H1))) := by
  refine ⟨fun pins s σ H R I h => ?_⟩
  refine thn (hl.run pins s σ H _ I h) fun v s1 ⟨x, H1, I1, r1, q1⟩ => ?_
  obtain ⟨a, rfl, ⟨⟨xs, hq⟩, q⟩ | ⟨⟨xs, hq⟩, q⟩⟩ := q1
  · cases r1
    obtain ⟨its, rv, pl, hz⟩ := I1.list hq
    exact wpAny_pyIter_list pl.isList (pi_one (tk := s1.toks) I1 _ (turn_list a _) ⟨_, Heap.get?_push_size _ rfl, rfl, rfl⟩ q)
  · cases r1
    obtain ⟨its, rv, pl, hz⟩ := I1.tuple hq
    exact wpAny_pyIter_tuple (show s1.heap.IsTuple a its.toArray from pl) (pi_one (tk := s1.toks) I1 _ (turn_tuple a _) ⟨_, Heap.get?_push_size _ rfl, rfl, rfl⟩ q)
def itA (f : En → Out D) : En → Out (List D) := fun ρ => (f ρ).bind fun d ρ => match d with
  | .lst ds => .ok ds ρ
  | .tup ds => .ok ds ρ
  | _ => .er
theorem if_any (h : PF X T W e f) : IF X T W tg e (itA f) := by
  obtain ⟨t, ht, hp⟩ := h
  refine ⟨_, pi_both ht, fun B F H σ ρ R w q => hp B F H σ ρ _ w ((PostX.bind q).imp fun d ρ1 _ q1 F1 H1 v g1 w1 i1 => ?_)⟩
  cases d <;> try exact q1.elim
  · rename_i ds
    obtain ⟨a', vs, rfl, s, l⟩ := i1.lstI
    exact ⟨a', rfl, .inl ⟨⟨vs, w1.f.seq s⟩, q1 F1 H1 _ _ _ g1 w1 (l.length ▸ walk_list) (fun H2 f2 => f2.seq s) (came_at l)⟩⟩
  · rename_i ds
    obtain ⟨a', vs, rfl, s, l⟩ := i1.tupI
    exact ⟨a', rfl, .inr ⟨⟨vs, same_seq w1.f s⟩, q1 F1 H1 _ _ _ g1 w1 (l.length ▸ walk_tup) (fun H2 f2 => same_seq f2 s) (came_at l)⟩⟩
/-- ranges -/
def rngD (lo c : Int) (n : Nat) : List D := (List.range n).map fun (i : Nat) => D.int (lo + (i : Int) * c)
def inR (i : Int) : Bool := decide (-(2 ^ 62) ≤ i) && decide (i < 2 ^ 62)
theorem rngD_get {lo c : Int} {n i : Nat} (h : i < n) : (rngD lo c n)[i]? = some (.int (lo + (i : Int) * c)) := by
  unfold rngD
  rw [List.getElem?_map, List.getElem?_range h]
  rfl
theorem rngD_len {lo c : Int} {n : Nat} : (rngD lo c n).length = n := by simp [rngD]
def itR1 (g : En → Out (List D)) : En → Out (List D) := fun ρ => (g ρ).bind fun ds ρ => match ds with
  | [.int j] => if inR j then .ok (rngD 0 1 j.toNat) ρ else .er
  | _ => .er
def itR2 (g : En → Out (List D)) : En → Out (List D) := fun ρ => (g ρ).bind fun ds ρ => match ds with
  | [.int i, .int j] => if inR i && inR j then .ok (rngD i 1 (j - i).toNat) ρ else .er
  | _ => .er
/-- range(i, j, -1) -/
def itR3 (g : En → Out (List D)) : En → Out (List D) := fun ρ => (g ρ).bind fun ds ρ => match ds with
  | [.int i, .int j, .int (-1)] => if inR i && inR j then .ok (rngD i (-1) (i - j).toNat) ρ else .er
  | _ => .er
theorem inR_ok {i : Int} (h : inR i = true) : -(2 ^ 62) ≤ i ∧ i < 2 ^ 62 := by
  unfold inR at h
  rw [Bool.and_eq_true] at h
  exact ⟨of_decide_eq_true h.1, of_decide_eq_true h.2⟩
theorem came_fn {K : PySem.W.Frag} {T : Ct} {F : Hp} {g : Nat → V} {ds : List D} (h : ∀ i, i < ds.length → ∀ F2, ∃ d, ds[i]? = some d ∧ Is K T F2 (g i) d) : Came K T F ds (YFn g) := fun i H x H1 hi ⟨e, y⟩ B F2 σ ρ s w => by
  subst e y
  obtain ⟨d, ed, i⟩ := h i hi F2
  exact ⟨F2, d, ed, Gw.refl, w, i⟩
theorem if_range1 {g : En → Out (List D)} (hg : Gl X "range") (hm : X.mg "range" = none) (ha : AF X T W [a] g) (hs : starEach [a] X.env = [(false, eval a X.env)] := by rfl) : IF X T W tg (.Call (.Name "range" p) [a] [] pos) (itR1 g) := by
  obtain ⟨t, ht, hp⟩ := ha
  refine ⟨_, pi_range1 hg hm ht hs, fun B F H σ ρ R w q => hp B F H σ ρ _ w ((PostX.bind q).imp fun ds ρ1 z0 q1 F1 H1 vs g1 w1 l1 => ?_)⟩
  clear z0
  split at q1
  · rename_i j
    obtain ⟨v, rfl, i⟩ := l1.one
    split at q1
    · rename_i hj
      obtain ⟨h1, h2⟩ := inR_ok hj
      refine ⟨j, by rw [i.intI], h1, h2, q1 F1 H1 _ _ _ g1 w1 (by rw [rngD_len]; exact walk_range) (fun _ _ => trivial) (came_fn fun i hi F2 => ⟨_, rngD_get (by simpa [rngD_len] using hi), ?_⟩)⟩
      rw [Int.mul_one]
      exact .int _
    · exact q1.elim
  · exact q1.elim
theorem if_range2 {g : En → Out (List D)} (hg : Gl X "range") (hm : X.mg "range" = none) (ha : AF X T W [a, b] g) (hs : starEach [a, b] X.env = [(false, eval a X.env), (false, eval b X.env)] := by rfl) (hs2 : starEach [b] X.env = [(false, eval b X.env)] := by rfl) :
    IF X T W tg (.Call (.Name "range" p) [a, b] [] pos) (itR2 g) := by
  obtain ⟨t, ht, hp⟩ := ha
  refine ⟨_, pi_range2 hg hm ht hs hs2, fun B F H σ ρ R w q => hp B F H σ ρ _ w ((PostX.bind q).imp fun ds ρ1 z0 q1 F1 H1 vs g1 w1 l1 => ?_)⟩
  clear z0
  split at q1
  · rename_i k j
    obtain ⟨v, u, rfl, i, i'⟩ := l1.two
    split at q1
    · rename_i hj
      rw [Bool.and_eq_true] at hj
      obtain ⟨h1, h2⟩ := inR_ok hj.1
      obtain ⟨h3, h4⟩ := inR_ok hj.2
      refine ⟨k, j, by rw [i.intI, i'.intI], ⟨h1, h2, h3, h4⟩, q1 F1 H1 _ _ _ g1 w1 (by rw [rngD_len]; exact walk_range) (fun _ _ => trivial) (came_fn fun i hi F2 => ⟨_, rngD_get (by simpa [rngD_len] using hi), ?_⟩)⟩
      rw [Int.mul_one]
      exact .int _
    · exact q1.elim
  · exact q1.elim
theorem if_range3 {g : En → Out (List D)} (hg : Gl X "range") (hm : X.mg "range" = none) (ha : AF X T W [a, b, c] g) (hs : starEach [a, b, c] X.env = (false, eval a X.env) :: starEach [b, c] X.env := by rfl) (hpl : (backTo pos (starEach [b, c] X.env)).any (·.1) = false := by rfl) :
    IF X T W tg (.Call (.Name "range" p) [a, b, c] [] pos) (itR3 g) := by
  obtain ⟨t, ht, hp⟩ := ha
  refine ⟨_, pi_range3 hg hm ht hs hpl, fun B F H σ ρ R w q => hp B F H σ ρ _ w ((PostX.bind q).imp fun ds ρ1 z0 q1 F1 H1 vs g1 w1 l1 => ?_)⟩
  clear z0
  split at q1
  · rename_i k j
    cases l1 with
    | cons i0 l1 =>
      obtain ⟨v, u, rfl, i, i'⟩ := l1.two
      split at q1
      · rename_i hj
        rw [Bool.and_eq_true] at hj
        obtain ⟨h1, h2⟩ := inR_ok hj.1
        obtain ⟨h3, h4⟩ := inR_ok hj.2
        refine ⟨k, j, -1, (k - j).toNat, by rw [i0.intI, i.intI, i'.intI], RgC.neg h1 h2 h3 h4, q1 F1 H1 _ _ _ g1 w1 (by rw [rngD_len]; exact walk_rangeC) (fun _ _ => trivial) (came_fn fun i hi F2 => ⟨_, rngD_get (by simpa [rngD_len] using hi), .int _⟩)⟩
      · exact q1.elim
  · exact q1.elim
/-- reversed -/
def itRev (f : En → Out D) : En → Out (List D) := fun ρ => (f ρ).bind fun d ρ => match d with
  | .lst ds => .ok ds.reverse ρ
  | .tup ds => .ok ds.reverse ρ
  | _ => .er
theorem walk_revT {K : PySem.W.Frag} {a : Addr} {xs : List V} : Walk (RT.ItvT K a xs.length) xs.length (fun H => SqT K H a xs) (fun i H x H' => H' = H ∧ xs[xs.length - 1 - i]? = some x) :=
  ⟨fun i _ hi q => ⟨hi, xs, xs[xs.length - 1 - i]'(by omega), q, by simp [show xs.length - 1 - i < xs.length by omega]⟩, fun _ _ => Nat.le_refl _, fun _ _ _ _ _ q y => ⟨y.1, y.2 xs q⟩⟩
theorem came_rev {K : PySem.W.Frag} {T : Ct} {F : Hp} {vs : List V} {ds : List D} (l : IsL K T F vs ds) : Came K T F ds.reverse (fun i H x H' => H' = H ∧ vs[vs.length - 1 - i]? = some x) := fun i H x H1 hi ⟨e, y⟩ B F2 σ ρ s w => by
  obtain ⟨d, ed, i⟩ := l.getV y
  subst e
  exact ⟨F2, d, by rw [List.getElem?_reverse (by simpa using hi), ← l.length]; exact ed, Gw.refl, w, i.mono s⟩
theorem if_rev (hg : Gl X "reversed") (hm : X.mg "reversed" = none) (h : PF X T W e f) (hs : starEach [e] X.env = (false, eval e X.env) :: starEach [] X.env := by rfl) : IF X T W tg (.Call (.Name "reversed" p) [e] [] pos) (itRev f) := by
  obtain ⟨t, ht, hp⟩ := h
  refine ⟨_, RT.pi_revA hg hm ht hs, fun B F H σ ρ R w q => hp B F H σ ρ _ w ((PostX.bind q).imp fun d ρ1 z0 q1 F1 H1 v g1 w1 i1 => ?_)⟩
  clear z0
  cases d <;> try exact q1.elim
  · rename_i ds
    obtain ⟨a', vs, rfl, s, l⟩ := i1.lstI
    refine ⟨a', vs, rfl, .inl ⟨w1.f.seq s, q1 F1 H1 _ (fun H => SqL X.K H a' vs) (fun i H x H' => H' = H ∧ vs[vs.length - 1 - i]? = some x) g1 w1 ?_ (fun H2 f2 => f2.seq s) (came_rev l)⟩⟩
    rw [List.length_reverse, ← l.length]
    exact walk_rev
  · rename_i ds
    obtain ⟨a', vs, rfl, s, l⟩ := i1.tupI
    refine ⟨a', vs, rfl, .inr ⟨same_seq w1.f s, q1 F1 H1 _ (fun H => SqT X.K H a' vs) (fun i H x H' => H' = H ∧ vs[vs.length - 1 - i]? = some x) g1 w1 ?_ (fun H2 f2 => same_seq f2 s) (came_rev l)⟩⟩
    rw [List.length_reverse, ← l.length]
    exact walk_revT
/-- texts -/
def itS (f : En → Out D) : En → Out (List D) := fun ρ => (f ρ).bind fun d ρ => match d with
  | .str s => .ok (s.cps.toList.map fun c => .str ⟨#[c]⟩) ρ
  | _ => .er
theorem if_str (h : PF X T W e f) : IF X T W tg e (itS f) := by
  obtain ⟨t, ht, hp⟩ := h
  refine ⟨_, pi_str ht, fun B F H σ ρ R w q => hp B F H σ ρ _ w ((PostX.bind q).imp fun d ρ1 z0 q1 F1 H1 v g1 w1 i1 => ?_)⟩
  clear z0
  cases d <;> try exact q1.elim
  rename_i s
  refine ⟨s, i1.strI, q1 F1 H1 _ (fun _ => True) (fun i H v H' => H' = H ∧ ∃ c, s.cps[i]? = some c ∧ v = .str ⟨#[c]⟩) g1 w1 (by simpa using walk_str) (fun _ _ => trivial) fun i H x H1 hi ⟨e, c, ec, ev⟩ B F2 σ ρ s w => ?_⟩
  subst e ev
  exact ⟨F2, .str ⟨#[c]⟩, by simpa using ec, Gw.refl, w, .str _⟩
/-- new pairs -/
theorem came_pair {K : PySem.W.Frag} {T : Ct} {F : Hp} {xs ys : Nat → Option V} {ds : List D} (h : ∀ i x y, xs i = some x → ys i = some y → ∃ d d', ds[i]? = some (.tup [d, d']) ∧ Is K T F x d ∧ Is K T F y d') : Came K T F ds (YPair xs ys) := fun i H v H1 hi ⟨p, x, y, ev, hp, e, hx, hy⟩ B F2 σ ρ s w => by
  obtain ⟨d, d', ed, i1, i2⟩ := h i x y hx hy
  subst ev e
  obtain ⟨g, w2⟩ := w.new (u := .tup [x, y]) hp
  exact ⟨_, _, ed, g, w2, .tup (.inl (.inl upd_same)) (.cons ((i1.mono s).mono g.s) (.cons ((i2.mono s).mono g.s) .nil))⟩
def itEn (g : En → Out (List D)) : En → Out (List D) := fun ρ => (g ρ).bind fun ds ρ => match ds with
  | [.lst ds] => .ok (ds.mapIdx fun i d => .tup [.int i, d]) ρ
  | _ => .er
theorem if_enum {g : En → Out (List D)} {elts : List Expr} {kk : Nat} {tpos : Pos} (hg : Gl X "enumerate") (hm : X.mg "enumerate" = none) (ha : AF X T W [e] g) (hs : starEach [e] X.env = [(false, eval e X.env)] := by rfl) : IF X T W (.Tuple elts kk tpos) (.Call (.Name "enumerate" p) [e] [] pos) (itEn g) := by
  obtain ⟨t, ht, hp⟩ := ha
  refine ⟨_, pi_enum hg hm ht hs, fun B F H σ ρ R w q => hp B F H σ ρ _ w ((PostX.bind q).imp fun ds ρ1 z0 q1 F1 H1 vs g1 w1 l1 => ?_)⟩
  clear z0
  split at q1
  · rename_i ds
    obtain ⟨v, rfl, i⟩ := l1.one
    obtain ⟨a', vs, rfl, s, l⟩ := i.lstI
    refine ⟨a', vs, rfl, w1.f.seq s, q1 F1 H1 _ _ _ g1 w1 (by rw [List.length_mapIdx, ← l.length]; exact walk_enum) (fun H2 f2 => f2.seq s) (came_pair fun i x y hx hy => ?_)⟩
    cases hx
    obtain ⟨d, ed, iy⟩ := l.getV hy
    exact ⟨_, d, by rw [List.getElem?_mapIdx, ed]; rfl, .int _, iy⟩
  · exact q1.elim
def itZp (g : En → Out (List D)) : En → Out (List D) := fun ρ => (g ρ).bind fun ds ρ => match ds with
  | [.lst xs, .lst ys] => .ok (List.zipWith (fun x y => .tup [x, y]) xs ys) ρ
  | _ => .er
theorem if_zip {g : En → Out (List D)} {e2 : Expr} {elts : List Expr} {kk : Nat} {tpos : Pos} (hg : Gl X "zip") (hm : X.mg "zip" = none) (ha : AF X T W [e, e2] g) (hs : starEach [e, e2] X.env = (false, eval e X.env) :: starEach [e2] X.env := by rfl) (hpl : (backTo pos (starEach [e2] X.env)).any (·.1) = false := by rfl) :
    IF X T W (.Tuple elts kk tpos) (.Call (.Name "zip" p) [e, e2] [] pos) (itZp g) := by
  obtain ⟨t, ht, hp⟩ := ha
  refine ⟨_, pi_zip hg hm ht hs hpl, fun B F H σ ρ R w q => hp B F H σ ρ _ w ((PostX.bind q).imp fun ds ρ1 z0 q1 F1 H1 vs g1 w1 l1 => ?_)⟩
  clear z0
  split at q1
  · rename_i xs ys
    obtain ⟨v, u, rfl, i, i'⟩ := l1.two
    obtain ⟨a', vs, rfl, s, l⟩ := i.lstI
    obtain ⟨b', us, rfl, s', l'⟩ := i'.lstI
    refine ⟨a', b', vs, us, rfl, w1.f.seq s, w1.f.seq s', q1 F1 H1 _ _ _ g1 w1 (walk_zip (by rw [List.length_zipWith, ← l.length, ← l'.length])) (fun H2 f2 => ⟨f2.seq s, f2.seq s'⟩) (came_pair fun i x y hx hy => ?_)⟩
    obtain ⟨d, ed, ix⟩ := l.getV hx
    obtain ⟨d', ed', iy⟩ := l'.getV hy
    exact ⟨d, d', by rw [List.getElem?_zipWith, ed, ed'], ix, iy⟩
  · exact q1.elim
end

/-! ### for -/
def forL (g : D → En → Option En) (b : En → SOut) : List D → En → SOut
  | [], ρ => .nx ρ
  | d :: ds, ρ => match g d ρ with
    | none => .er
    | some ρ => (match b ρ with
      | .nx ρ => forL g b ds ρ
      | .ct ρ => forL g b ds ρ
      | .bk ρ => .nx ρ
      | r => r)
def sFor (f : En → Out (List D)) (g : D → En → Option En) (b : En → SOut) : En → SOut := fun ρ => (f ρ).st fun ds ρ => forL g b ds ρ
section
variable {X : Cx} {T : Ct} {W : WX} {bs ts : List Nat} {tg iter : Expr} {body : List Stmt} {f : En → Out (List D)} {g : D → En → Option En} {fb : En → SOut} {pos : Pos}
theorem z_for (hp : PassesOwn (model X.prog X.w) X.A X.env X.xe) (hc : X.calm = true) (hi : IF X T W tg iter f) (hg : GF X T ts tg g) (hb : ZFs X T W bs body fb) (hd : (ts.all fun i => !bs.contains i) = true := by rfl)
    (hs : ∀ x, foldedSetIterable iter X.env x = pure x := by intro _; rfl) : ZF X T W bs (.For tg iter body [] pos) (sFor f g fb) := by
  obtain ⟨wi, hwi, hpi⟩ := hi
  obtain ⟨tg', htg, hpg⟩ := hg
  obtain ⟨tb, htb, hpb⟩ := hb
  refine ⟨_, ps_for hp hc hwi htg htb hs, fun B F H σ ρ E w q => ?_⟩
  refine hpi B F H σ ρ _ w (PostS.ofX q fun ds ρ1 q1 F1 H1 J G Y g1 w1 wk hG cm => ?_)
  refine for_it wk (fun i σ' H' => ∃ F2 ρ2, Same F1 F2 ∧ Gw B F F2 ∧ Wd X.K T B F2 H' σ' ρ2 ∧ PostS X.K T W bs B F2 σ' (forL g fb (ds.drop i) ρ2) E) ⟨F1, ρ1, Same.refl F1, g1, w1, by simpa using q1.gw g1 Kp.refl⟩
    (fun i σ' H' _ ⟨F2, ρ2, s2, _, w2, _⟩ => hG H' (s2.trans w2.f)) (fun i x σ' H2 H3 hi ⟨F2, ρ2, s2, g2, w2, q2⟩ y => ?_) fun σ' H' ⟨F2, ρ2, s2, g2, w2, q2⟩ => ?_
  · obtain ⟨F3, d, ed, g3, w3, ix⟩ := cm i H2 x H3 hi y B F2 σ' ρ2 s2 w2
    obtain ⟨hl, rfl⟩ := List.getElem?_eq_some_iff.mp ed
    rw [List.drop_eq_getElem_cons hl, forL] at q2
    cases e' : g ds[i] ρ2 with
    | none => rw [e'] at q2; exact q2.elim
    | some ρ3 =>
      rw [e'] at q2
      dsimp only at q2
      refine hpg B F3 H3 σ' ρ2 ρ3 x _ _ w3 ix e' fun σ4 k4 w4 => hpb B F3 H3 σ4 ρ3 _ w4 ?_
      have q3 := PostS.gw q2 g3 (k4.kp hd)
      revert q3
      cases fb ρ3 with
      | nx ρ4 => exact fun q3 F5 H5 σ5 g5 k5 w5 => ⟨F5, ρ4, s2.trans (g3.s.trans g5.s), g2.trans (g3.trans g5), w5, q3.gw g5 k5⟩
      | ct ρ4 => exact fun q3 F5 H5 σ5 g5 k5 w5 => ⟨F5, ρ4, s2.trans (g3.s.trans g5.s), g2.trans (g3.trans g5), w5, q3.gw g5 k5⟩
      | bk ρ4 => exact id
      | rt d ρ4 => exact id
      | ex x ρ4 => exact id
      | er => exact id
  · rw [List.drop_length, forL] at q2
    exact q2 F2 H' σ' Gw.refl Kp.refl w2
end
end Ce
namespace Ce
open PySem PySem.Spec PyProof.Rows L2 Ce

/-! ### the widest readings -/
def tPF (K : PySem.W.Frag) (T : Ct) (W : WX) (f : En → Out D) : TE := fun σ H Q => ∃ B F ρ, Wd K T B F H σ ρ ∧ Post K T W B F σ (Is K T) (f ρ) Q
def tTF (K : PySem.W.Frag) (T : Ct) (W : WX) (f : En → Out Bool) : TT := fun σ H Q => ∃ B F ρ, Wd K T B F H σ ρ ∧ Post K T W B F σ RB (f ρ) Q
def tGF (K : PySem.W.Frag) (T : Ct) (ts : List Nat) (g : D → En → Option En) : TG := fun v σ H Q => ∃ B F ρ ρ' d, Wd K T B F H σ ρ ∧ Is K T F v d ∧ g d ρ = some ρ' ∧ ∀ σ', Only ts σ σ' → Wd K T B F H σ' ρ' → Q σ' H
section
variable {X : Cx} {T : Ct} {W : WX} {e : Expr}
theorem PF.pe {f : En → Out D} (h : PF X T W e f) : PE X e (tPF X.K T W f) := by
  obtain ⟨t, ht, hp⟩ := h
  exact ⟨fun pins s σ H Q I ⟨B, F, ρ, w, q⟩ => ht.run pins s σ H Q I (hp B F H σ ρ Q w q)⟩
theorem TF.pt {f : En → Out Bool} (h : TF X T W e f) : PT X e (tTF X.K T W f) := by
  obtain ⟨t, ht, hp⟩ := h
  exact ⟨fun pins s σ H Q I ⟨B, F, ρ, w, q⟩ => ht.run pins s σ H Q I (hp B F H σ ρ Q w q)⟩
theorem GF.pg {ts : List Nat} {g : D → En → Option En} (h : GF X T ts e g) : PG X e (tGF X.K T ts g) := by
  obtain ⟨t, ht, hp⟩ := h
  exact ⟨fun pins s σ H v u Q I r ⟨B, F, ρ, ρ', d, w, i, e, q⟩ => ht.run pins s σ H v u Q I r (hp B F H σ ρ ρ' v d Q w i e q)⟩
end

/-! ### slots of a block -/
def wipeE (ρ : En) : List Nat → En
  | [] => ρ
  | v :: vs => (wipeE ρ vs).set v none
def restE (ρ1 : En) : List Nat → En → En
  | [], ρ => ρ
  | v :: vs, ρ => match ρ1[v]? with
    | some (some (.im d)) => (restE ρ1 vs ρ).set v (some (.im d))
    | _ => restE ρ1 vs ρ
section
variable {K : PySem.W.Frag} {T : Ct} {B F F1 H H1 : Hp} {σ σ' : L2.St} {ρ ρ1 : En}
theorem Wd.wipe (w : Wd K T B F H σ ρ) : ∀ vs : List Nat, Wd K T B F H (L2.wipe σ vs) (wipeE ρ vs)
  | [] => w
  | v :: vs => (Wd.wipe w vs).drop v none
/-- other slots, where nothing is said -/
theorem Wd.swap (w : Wd K T B F H σ ρ) (hl : σ'.length = σ.length) (h : ∀ (i : Nat) (o : O), ρ[i]? = some (some o) → σ'[i]? = σ[i]?) : Wd K T B F H σ' ρ := by
  obtain ⟨φ, h1, h2, h3⟩ := w.o
  exact ⟨w.b, w.f, hl.trans w.l, φ, fun i o e => by
    obtain ⟨v, ev, q⟩ := h1 i o e
    exact ⟨v, (h i o e).trans ev, q⟩, h2, h3⟩
theorem wipeE_none {vs : List Nat} {i : Nat} {o : O} (h : (wipeE ρ vs)[i]? = some (some o)) : i ∉ vs := by
  induction vs with
  | nil => simp
  | cons v vs ih =>
    unfold wipeE at h
    by_cases z : v = i
    · subst z
      by_cases hl : v < (wipeE ρ vs).length
      · rw [List.getElem?_set_self hl] at h; cases h
      · rw [List.getElem?_eq_none (by simpa using hl)] at h; cases h
    · rw [List.getElem?_set_ne z] at h
      have k := ih h
      simp
      exact ⟨fun q => z q.symm, k⟩
theorem wipe_other {vs : List Nat} {i : Nat} (h : i ∉ vs) : (L2.wipe σ vs)[i]? = σ[i]? := by
  induction vs with
  | nil => rfl
  | cons v vs ih =>
    simp at h
    unfold L2.wipe
    rw [List.getElem?_set_ne (fun q => h.1 q.symm)]
    exact ih h.2
theorem wipe_in {vs : List Nat} {i : Nat} (h : i ∈ vs) (hl : i < σ.length) : (L2.wipe σ vs)[i]? = some none := by
  induction vs with
  | nil => cases h
  | cons v vs ih =>
    unfold L2.wipe
    by_cases z : v = i
    · subst z
      rw [List.getElem?_set_self (by rw [wipe_length]; exact hl)]
    · rw [List.getElem?_set_ne z]
      simp at h
      exact ih (h.resolve_left fun q => z q.symm)
theorem wipe_eq {vs ts : List Nat} (ho : Only ts (L2.wipe σ vs) σ') (hs : (ts.all fun i => vs.contains i) = true) : L2.wipe σ' vs = L2.wipe σ vs := by
  have hl : σ'.length = σ.length := ho.l.trans (wipe_length σ vs)
  apply List.ext_getElem?
  intro i
  by_cases hi : i ∈ vs
  · by_cases h : i < σ.length
    · rw [wipe_in hi h, wipe_in hi (by omega)]
    · rw [List.getElem?_eq_none (by rw [wipe_length]; omega), List.getElem?_eq_none (by rw [wipe_length]; omega)]
  · rw [wipe_other hi]
    have z : ts.contains i = false := by
      cases q : ts.contains i with
      | false => rfl
      | true =>
        have y := List.all_eq_true.mp hs i (by simpa using q)
        exact absurd (by simpa using y) hi
    exact ho.o i z
theorem Wd.unwipe {vs : List Nat} (w : Wd K T B F H (L2.wipe σ vs) (wipeE ρ vs)) : Wd K T B F H σ (wipeE ρ vs) :=
  w.swap (wipe_length σ vs).symm fun i o e => (wipe_other (wipeE_none e)).symm
theorem Wd.reIm {v : V} {d : D} {i : Nat} (w : Wd K T B F H σ ρ) (e : σ[i]? = some (some v)) (q : Is K T F v d) : Wd K T B F H σ (ρ.set i (some (.im d))) := by
  have z := w.putIm' (i := i) q
  have y : σ.set i (some v) = σ := by
    apply List.ext_getElem?
    intro j
    by_cases h : i = j
    · subst h
      rw [List.getElem?_set_self (List.getElem?_eq_some_iff.mp e).1, e]
    · rw [List.getElem?_set_ne h]
  rw [y] at z
  exact z
theorem Wd.rest (w1 : Wd K T B F1 H1 σ ρ1) (s : Same F1 F) : ∀ (vs : List Nat) {B' : Hp} {ρ : En}, Wd K T B' F H σ ρ → Wd K T B' F H σ (restE ρ1 vs ρ)
  | [], _, _, w => w
  | v :: vs, _, _, w => by
    unfold restE
    split
    · rename_i d e
      obtain ⟨x, ex, ix⟩ := w1.get e
      exact (Wd.rest w1 s vs w).reIm ex (ix.mono s)
    · exact Wd.rest w1 s vs w
/-- what stands at an own object is exchanged -/
theorem Wd.over {a : Addr} {u u' : HO} (w : Wd K T (upd B a u) F H σ ρ) (hf : F a = none) : Wd K T (upd B a u') F (upd H a u') σ ρ := by
  obtain ⟨φ, h1, h2, h3⟩ := w.o
  have na : ∀ i b, b ∈ φ i → b ≠ a := fun i b m z => by
    have q := (h3 i b m).2.2
    rw [z, upd_same] at q
    cases q
  refine ⟨fun b o e => ?_, fun b o e => ?_, w.l, φ, fun i o e => ?_, h2, fun i b m => ?_⟩
  · by_cases z : b = a
    · subst z; rw [upd_same] at e ⊢; exact e
    · rw [upd_ne z] at e ⊢; exact w.b b o (by rw [upd_ne z]; exact e)
  · have z : b ≠ a := fun z => by subst z; rw [hf] at e; cases e
    rw [upd_ne z]; exact w.f b o e
  · obtain ⟨v, ev, q⟩ := h1 i o e
    exact ⟨v, ev, q.mono (Same.refl F) fun b m u e => by rw [upd_ne (na i b m)]; exact e⟩
  · obtain ⟨x, y, z⟩ := h3 i b m
    refine ⟨x, y, ?_⟩
    rw [upd_ne (na i b m)] at z ⊢
    exact z
end

/-! ### list comprehensions -/
def lcL (g : D → En → Option En) (ft : En → Out Bool) (fe : En → Out D) (vs : List Nat) : List D → List D → En → Out (List D)
  | [], acc, ρ => .ok acc ρ
  | d :: ds, acc, ρ => match g d ρ with
    | none => .er
    | some ρ => (match ft ρ with
      | .ok true ρ => (match fe ρ with
        | .ok y ρ => if decide (acc.length < sizeLine) then lcL g ft fe vs ds (acc ++ [y]) (wipeE ρ vs) else .er
        | _ => .er)
      | .ok false ρ => lcL g ft fe vs ds acc (wipeE ρ vs)
      | _ => .er)
def nLc (f : En → Out (List D)) (g : D → En → Option En) (ft : En → Out Bool) (fe : En → Out D) (vs : List Nat) : En → Out (List D) := fun ρ => (f ρ).bind fun ds ρ1 => match lcL g ft fe vs ds [] (wipeE ρ1 vs) with
  | .ok acc ρ2 => .ok acc (restE ρ1 vs ρ2)
  | _ => .er
def noW : WX := fun _ _ _ _ => False
def always : En → Out Bool := fun ρ => .ok true ρ
theorem lcL_wiped {g : D → En → Option En} {ft : En → Out Bool} {fe : En → Out D} {vs : List Nat} : ∀ {ds acc out : List D} {ρ ρ2 : En}, lcL g ft fe vs ds acc (wipeE ρ vs) = .ok out ρ2 → ∃ ρ3, ρ2 = wipeE ρ3 vs
  | [], acc, out, ρ, ρ2, h => by
    rw [lcL] at h
    cases h
    exact ⟨_, rfl⟩
  | d :: ds, acc, out, ρ, ρ2, h => by
    rw [lcL] at h
    split at h
    · cases h
    · split at h
      · split at h
        · split at h
          · exact lcL_wiped h
          · cases h
        · cases h
      · exact lcL_wiped h
      · cases h
section
variable {X : Cx} {T : Ct} {W : WX} {ts : List Nat} {elt tg iter : Expr} {ifs : List Expr} {scope : Scope} {vz : List Nat} {own : List (Str × Nat)} {pos : Pos} {f : En → Out (List D)} {g : D → En → Option En} {ft : En → Out Bool} {fe : En → Out D}
theorem lc_ok (tt : TT) {σ : L2.St} {ρ1 : En} {vs : List Nat} (htt : ∀ B F H σ ρ Q, Wd X.K T B F H σ ρ → Post X.K T noW B F σ RB (ft ρ) Q → tt σ H Q) (hts : (ts.all fun i => vs.contains i) = true)
    {B F F1 H1 : Hp} {J : It} {ds : List D} {G : Hp → Prop} {Y : Nat → Hp → V → Hp → Prop} {Q : VK} (w1 : Wd X.K T B F1 H1 σ ρ1) (g1 : Gw B F F1) (wk : Walk J ds.length G Y) (hG : ∀ H2, Same F1 H2 → Same B H2 → G H2) (cm : Came X.K T F1 ds Y)
    {out : List D} {ρ2 : En} (he : lcL g ft fe vs ds [] (wipeE ρ1 vs) = .ok out ρ2) (hq : goodN X.K T B F σ Q out (restE ρ1 vs ρ2)) (a : Addr) (ha : H1 a = none) :
    ∃ W : Nat → Nat → Hp → Prop, (∃ m, W 0 m (upd H1 a (.lst []))) ∧ ∀ i m H, W i m H →
      (J.stop i H ∧ Q (.ref a) H) ∨ (J.go i H ∧ ∃ Nx : Hp → Prop, (∀ H', Nx H' → ∃ m', m' < m ∧ W (i + 1) m' H') ∧ ∀ x H', J.yld i H x H' → tGF X.K T ts g x (L2.wipe σ vs) H' fun σ2 H2 => L2.wipe σ2 vs = L2.wipe σ vs ∧ tt σ2 H2 fun b H3 =>
        if b = true then tPF X.K T noW fe σ2 H3 fun y H4 => ∃ acc, H4 a = some (.lst acc) ∧ acc.length < sizeLine ∧ Nx (upd H4 a (.lst (acc ++ [y]))) else Nx H3) := by
  obtain ⟨f0, b0⟩ := w1.nofree ha
  have sB : ∀ u, Same B (upd B a u) := fun u => same_upd b0
  refine lc_it wk (fun i H => ∃ F2 ρ3 acc accD, Same F1 F2 ∧ Gw B F F2 ∧ F2 a = none ∧ Wd X.K T (upd B a (.lst acc)) F2 H (L2.wipe σ vs) (wipeE ρ3 vs) ∧ IsL X.K T F2 acc accD ∧ lcL g ft fe vs (ds.drop i) accD (wipeE ρ3 vs) = .ok out ρ2)
    ⟨F1, ρ1, [], [], Same.refl F1, g1, f0, (w1.wipe vs).fresh ha, .nil, by simpa using he⟩ (fun i H _ ⟨F2, ρ3, acc, accD, s2, _, _, w2, _, _⟩ => hG H (s2.trans w2.f) ((sB _).trans w2.b)) (fun i x H2 H3 hi ⟨F2, ρ3, acc, accD, s2, g2, fa, w2, l2, e2⟩ y => ?_)
    fun H ⟨F2, ρ3, acc, accD, s2, g2, fa, w2, l2, e2⟩ => ?_
  · obtain ⟨F3, d, ed, g3, w3, ix⟩ := cm i H2 x H3 hi y _ F2 _ _ s2 w2
    obtain ⟨hl, rfl⟩ := List.getElem?_eq_some_iff.mp ed
    have keep : ∀ {F3 F4 : Hp}, Gw (upd B a (.lst acc)) F3 F4 → F3 a = none → F4 a = none := fun {F3 F4} g h => by
      cases z : F4 a with
      | none => rfl
      | some u =>
        rcases g.n a u z with q | q
        · rw [h] at q; cases q
        · rw [upd_same] at q; cases q
    rw [List.drop_eq_getElem_cons hl, lcL] at e2
    split at e2
    · cases e2
    · rename_i ρ4 e4
      refine ⟨_, F3, _, ρ4, _, w3, ix, e4, fun σ2 k2 w4 => ?_⟩
      have hw : L2.wipe σ2 vs = L2.wipe σ vs := wipe_eq k2 hts
      refine ⟨hw, ?_⟩
      refine htt _ F3 H3 σ2 ρ4 _ w4 ?_
      split at e2
      · rename_i ρ5 e5
        rw [e5]
        rintro F5 H5 b g5 w5 rfl
        rw [if_pos rfl]
        refine ⟨_, F5, ρ5, w5, ?_⟩
        split at e2
        · rename_i z ρ6 e6
          rw [e6]
          intro F6 H6 v g6 w6 i6
          split at e2
          · rename_i hlen
            have hlen := of_decide_eq_true hlen
            have gg : Gw (upd B a (.lst acc)) F2 F6 := g3.trans (g5.trans g6)
            refine ⟨acc, w6.b _ _ upd_same, by rw [l2.length]; exact hlen, F6, ρ6, acc ++ [v], accD ++ [z], s2.trans gg.s, g2.trans (gg.less (sB _)), keep gg fa, ?_, (l2.mono gg.s).append (.cons i6 .nil), e2⟩
            rw [← hw]
            exact (w6.wipe vs).over (keep gg fa)
          · cases e2
        · cases e2
      · rename_i ρ5 e5
        rw [e5]
        rintro F5 H5 b g5 w5 rfl
        rw [if_neg Bool.false_ne_true]
        have gg : Gw (upd B a (.lst acc)) F2 F5 := g3.trans g5
        refine ⟨F5, ρ5, acc, accD, s2.trans gg.s, g2.trans (gg.less (sB _)), keep gg fa, ?_, l2.mono gg.s, e2⟩
        rw [← hw]
        exact w5.wipe vs
      · cases e2
  · rw [List.drop_length, lcL] at e2
    cases e2
    exact hq F2 H a acc g2 b0 fa (Wd.rest w1 s2 vs w2.unwipe) l2
theorem pn_lc0 (hc : X.calm = true) (hN : X.N.Nodup) (hi : IF X T W tg iter f) (ok : BlkOk X.N X.env.scope scope own) (hg : ∀ (s : Shared) (H : Hp) (C : Addr) (cl : List (Str × Addr)) (fp : List Addr), GF (X.blk s H scope (compEnvC scope cl C X.env) fp) T ts tg g)
    (he : ∀ (s : Shared) (H : Hp) (C : Addr) (cl : List (Str × Addr)) (fp : List Addr), PF (X.blk s H scope (compEnvC scope cl C X.env) fp) T noW elt fe) (hvs : own.map (·.2) = vz := by rfl) (hts : (ts.all fun i => (own.map (·.2)).contains i) = true := by rfl) (hs : ∀ x, foldedSetIterable iter X.env x = pure x := by intro _; rfl) :
    PN X T W (.ListComp elt [⟨tg, iter, [], 0⟩] scope pos) (nLc f g always fe vz) := by
  subst hvs
  obtain ⟨wi, hwi, hpi⟩ := hi
  refine ⟨_, pe_lc hc hN hwi ok (g := tGF X.K T ts g) (tt := tYes) (te := tPF X.K T noW fe) (fun s H C cl fp => (hg s H C cl fp).pg) (fun s H C cl fp => pts_nil) (fun s H C cl fp => (he s H C cl fp).pe) hs, fun B F H σ ρ Q w q => ?_⟩
  refine hpi B F H σ ρ _ w ((PostX.bind q).imp fun ds ρ1 _ q1 F1 H1 J G Y g1 w1 wk hG cm a ha => ?_)
  split at q1
  · rename_i out ρ2 e2
    exact lc_ok (ts := ts) (ft := always) tYes (fun B F H σ ρ Q w q => q F H true Gw.refl w rfl) hts w1 g1 wk (fun H2 s _ => hG H2 s) cm e2 q1 a ha
  · exact q1.elim
theorem pn_lc1 {c : Expr} (hc : X.calm = true) (hN : X.N.Nodup) (hi : IF X T W tg iter f) (ok : BlkOk X.N X.env.scope scope own) (hg : ∀ (s : Shared) (H : Hp) (C : Addr) (cl : List (Str × Addr)) (fp : List Addr), GF (X.blk s H scope (compEnvC scope cl C X.env) fp) T ts tg g)
    (ht : ∀ (s : Shared) (H : Hp) (C : Addr) (cl : List (Str × Addr)) (fp : List Addr), TF (X.blk s H scope (compEnvC scope cl C X.env) fp) T noW c ft)
    (he : ∀ (s : Shared) (H : Hp) (C : Addr) (cl : List (Str × Addr)) (fp : List Addr), PF (X.blk s H scope (compEnvC scope cl C X.env) fp) T noW elt fe) (hvs : own.map (·.2) = vz := by rfl) (hts : (ts.all fun i => (own.map (·.2)).contains i) = true := by rfl) (hs : ∀ x, foldedSetIterable iter X.env x = pure x := by intro _; rfl) :
    PN X T W (.ListComp elt [⟨tg, iter, [c], 0⟩] scope pos) (nLc f g ft fe vz) := by
  subst hvs
  obtain ⟨wi, hwi, hpi⟩ := hi
  refine ⟨_, pe_lc hc hN hwi ok (g := tGF X.K T ts g) (tt := tTF X.K T noW ft) (te := tPF X.K T noW fe) (fun s H C cl fp => (hg s H C cl fp).pg) (fun s H C cl fp => pts_one (ht s H C cl fp).pt) (fun s H C cl fp => (he s H C cl fp).pe) hs, fun B F H σ ρ Q w q => ?_⟩
  refine hpi B F H σ ρ _ w ((PostX.bind q).imp fun ds ρ1 _ q1 F1 H1 J G Y g1 w1 wk hG cm a ha => ?_)
  split at q1
  · rename_i out ρ2 e2
    exact lc_ok (ts := ts) _ (fun B F H σ ρ Q w q => ⟨B, F, ρ, w, q⟩) hts w1 g1 wk (fun H2 s _ => hG H2 s) cm e2 q1 a ha
  · exact q1.elim
end
end Ce
namespace Ce
open PySem PySem.Spec PyProof.Rows L2 Ce

section
variable {X : Cx} {T : Ct} {W : WX} {bs : List Nat} {e o : Expr} {f : En → Out D} {pos p p2 p3 apos cpos : Pos} {i : Nat}
/-! ### lists that a slot owns -/
theorem slot_own {K : PySem.W.Frag} {B F H : Hp} {σ : L2.St} {ρ : En} {ds : List D} (w : Wd K T B F H σ ρ) (h : ρ[i]? = some (some (.ol ds))) : ∃ a vs, σ[i]? = some (some (.ref a)) ∧ H a = some (.lst vs) ∧ IsL K T F vs ds := by
  obtain ⟨v, fp, ev, o, _⟩ := w.own h
  obtain ⟨a, vs, rfl, _, ha, l⟩ := o.olI
  exact ⟨a, vs, ev, ha, l⟩
/-- new content -/
theorem Wd.list {K : PySem.W.Frag} {B F H : Hp} {σ : L2.St} {ρ : En} {ds es : List D} {a : Addr} {vs ws : List V} (w : Wd K T B F H σ ρ) (h : ρ[i]? = some (some (.ol ds))) (ev : σ[i]? = some (some (.ref a))) (ha : H a = some (.lst vs)) (l : IsL K T F vs ds) (l' : IsL K T F ws es) :
    Wd K T B F (upd H a (.lst ws)) σ (ρ.set i (some (.ol es))) := w.turn h ev (.ol ha l) (.ol upd_same l')
def sApp (i : Nat) (f : En → Out D) : En → SOut := fun ρ => (vw i ρ).st fun _ ρ => (f ρ).st fun d ρ => match ρ[i]? with
  | some (some (.ol ds)) => if decide (ds.length < sizeLine) then .nx (ρ.set i (some (.ol (ds ++ [d])))) else .er
  | _ => .er
theorem vw_st {K : PySem.W.Frag} {B F : Hp} {σ : L2.St} {ρ : En} {E : Ends} {k : List D → En → SOut} (q : PostS K T W bs B F σ ((vw i ρ).st k) E) : ∃ ds, (ρ[i]? = some (some (.im (.lst ds))) ∨ ρ[i]? = some (some (.ol ds))) ∧ PostS K T W bs B F σ (k ds ρ) E := by
  cases e : vw i ρ with
  | ok ds ρ' =>
    obtain ⟨rfl, h⟩ := vw_ok e
    rw [e] at q
    exact ⟨ds, h, q⟩
  | ex x ρ' => unfold vw at e; split at e <;> cases e
  | er => rw [e] at q; exact q.elim
theorem z_app (ho : PE X o (tVar i)) (h : PF X T W e f) (hbase : attributeBase o "append" X.env (eval o X.env) = eval o X.env := by rfl)
    (hfew : ((backTo cpos (starEach [e] X.env)).all (fun x => !x.1) && (backToKw cpos (keywordEach [] X.env)).all (fun x => x.1.isSome)
      && decide (([e] : List Expr).length + ([] : List Keyword).length + (if ([] : List Keyword).isEmpty then 0 else 1) < 30)) = true := by rfl)
    (hline : (apos.endLine == cpos.line) = true := by rfl) (hs : starEach [e] X.env = (false, eval e X.env) :: starEach [] X.env := by rfl) (hpl : (backTo cpos (starEach [] X.env)).any (·.1) = false := by rfl)
    (hsw : swapsWith (.Call (.Attribute o "append" apos) [e] [] cpos) none pos.line X.env = pure false := by rfl) : ZF X T W bs (.Expr (.Call (.Attribute o "append" apos) [e] [] cpos) pos) (sApp i f) := by
  obtain ⟨t, ht, hp⟩ := h
  refine ⟨_, ps_expr (pe_bm PySem.F.plainAttrs_list PySem.F.slot_list_append PySem.F.type_list_append mt_append ho (pa_cons ht pa_nil hs) hbase hfew hline hs hpl) hsw, fun B F H σ ρ E w q => ?_⟩
  obtain ⟨ds0, h0, q⟩ := vw_st q
  obtain ⟨a, vs, ev, s, l⟩ := slot_list w h0
  refine ⟨_, ev, .inl ⟨rfl, vs, s⟩, hp B F H σ ρ _ w (PostS.ofP q fun d ρ1 F1 H1 v g1 w1 i1 q1 => ?_)⟩
  split at q1
  · rename_i ds e1
    split at q1
    · rename_i hl
      have hl := of_decide_eq_true hl
      obtain ⟨a', vs', ev', ha, l'⟩ := slot_own w1 e1
      rw [ev] at ev'
      cases ev'
      exact ⟨a, vs', v, rfl, rfl, ha, by rw [l'.length]; exact hl, q1 F1 _ σ Gw.refl Kp.refl (w1.list e1 ev ha l' (l'.append (.cons i1 .nil)))⟩
    · exact q1.elim
  · exact q1.elim
def popE (i : Nat) : En → Out D := fun ρ => match ρ[i]? with
  | some (some (.ol ds)) => (match ds[ds.length - 1]? with
    | some d => .ok d (ρ.set i (some (.ol ds.dropLast)))
    | none => .er)
  | _ => .er
theorem pf_pop (ho : PE X o (tVar i)) (hbase : attributeBase o "pop" X.env (eval o X.env) = eval o X.env := by rfl) (hline : (apos.endLine == cpos.line) = true := by rfl) : PF X T W (.Call (.Attribute o "pop" apos) [] [] cpos) (popE i) := by
  refine ⟨_, pe_bm0 PySem.F.plainAttrs_list PySem.F.slot_list_pop PySem.F.type_list_pop mt_pop ho hbase hline, fun B F H σ ρ Q w q => ?_⟩
  unfold popE at q
  split at q
  · rename_i ds e1
    obtain ⟨a, vs, ev, ha, l⟩ := slot_own w e1
    split at q
    · rename_i d ed
      obtain ⟨v, hv, iv⟩ := l.get ed
      refine ⟨_, ev, .inl ⟨rfl, vs, SqL.of ha⟩, a, vs, v, rfl, rfl, ha, by rw [l.length]; exact hv, ?_⟩
      exact q F _ v Gw.refl (w.list e1 ev ha l l.dropLast) iv
    · exact q.elim
  · exact q.elim
/-- xs[e] = v -/
def sSetIx (i : Nat) (f fi : En → Out D) : En → SOut := fun ρ => (f ρ).st fun d ρ => (vw i ρ).st fun _ ρ => (fi ρ).st fun k ρ => match k, ρ[i]? with
  | .int k, some (some (.ol ds)) => (match ixN ds.length k with
    | some j => .nx (ρ.set i (some (.ol (ds.set j d))))
    | none => .er)
  | _, _ => .er
theorem z_setIx {ix : Expr} {fi : En → Out D} (ho : PE X o (tVar i)) (hi : PF X T W ix fi) (h : PF X T W e f) (ha : ∀ v, assign (.Subscript o ix p) X.env v = (do
      let ov ← holding [v] (eval o X.env)
      let iv ← holding [v, ov] (eval ix X.env)
      standAt p
      holding [v, ov, iv] (setItem ov iv v)
      release [v, ov, iv] []) := by intro _; rfl) (hs : swapsWithSole [.Subscript o ix p] e pos.line X.env = pure false := by rfl) (hw : swappedStores [.Subscript o ix p] e X.env = pure none := by rfl)
    (h1 : (assignEach [.Subscript o ix p] X.env).map (·.2) = [assign (.Subscript o ix p) X.env] := by rfl) : ZF X T W bs (.Assign [.Subscript o ix p] e pos) (sSetIx i f fi) := by
  obtain ⟨t, ht, hp⟩ := h
  obtain ⟨ti, hti, hpi⟩ := hi
  refine ⟨_, ps_asg ht (pg_sub ho hti set_list ha) hs hw h1, fun B F H σ ρ E w q => hp B F H σ ρ _ w (PostS.ofP q fun d ρ1 F1 H1 v g1 w1 i1 q1 => ?_)⟩
  obtain ⟨ds0, h0, q1⟩ := vw_st q1
  obtain ⟨a, vs, ev, s, l⟩ := slot_list w1 h0
  refine ⟨_, ev, hpi B F1 H1 σ ρ1 _ w1 (PostS.ofP q1 fun k ρ2 F2 H2 u g2 w2 i2 q2 => ?_)⟩
  split at q2
  · rename_i k ds e2
    obtain ⟨a', vs', ev', ha, l'⟩ := slot_own w2 e2
    rw [ev] at ev'
    cases ev'
    split at q2
    · rename_i j ej
      exact ⟨a, vs', k, j, rfl, i2.intI, ha, by rw [l'.length]; exact ej, q2 F2 _ σ Gw.refl Kp.refl (w2.list e2 ev ha l' (l'.set (i1.mono g2.s) j))⟩
    · exact q2.elim
  · exact q2.elim
/-! ### name op= int -/
def sAug (i : Nat) (g : Int → Int → Int) (f : En → Out D) : En → SOut := fun ρ => match ρ[i]? with
  | some (some (.im (.int a))) => (f ρ).st fun d ρ => (match d with
    | .int b => .nx (ρ.set i (some (.im (.int (g a b)))))
    | _ => .er)
  | _ => .er
theorem z_aug {op : Operator} {g : Int → Int → Int} {x : Str} (ip : PIp X op (ipI g)) (hN : X.N.Nodup) (hi : X.N[i]? = some x) (hx : Loc X.env.scope x) (h : PF X T W e f) (hb : bs.contains i = false := by rfl)
    (hf : X.fn x = true ∨ X.env.scope.names.lookup x = some .local := by first | exact .inl rfl | exact .inr rfl | assumption) : ZF X T W bs (.AugAssign (.Name x p) op e pos) (sAug i g f) := by
  obtain ⟨t, ht, hp⟩ := h
  refine ⟨_, ps_aug hN hi hx ht ip hf, fun B F H σ ρ E w q => ?_⟩
  unfold sAug at q
  split at q
  · rename_i a e1
    obtain ⟨v, ev, iv⟩ := w.get e1
    refine ⟨v, ev, hp B F H σ ρ _ w (PostS.ofP q fun d ρ1 F1 H1 u g1 w1 i1 q1 => ?_)⟩
    cases d <;> try exact q1.elim
    rename_i b
    exact ⟨a, b, iv.intI, i1.intI, q1 F1 H1 _ Gw.refl (Kp.set hb) (w1.putIm' (.int _))⟩
  · exact q.elim
/-! ### fields of an object that a slot owns -/
theorem putF_old {K : PySem.W.Frag} {F : Hp} {f : Str} {v : V} {d : D} (iv : Is K T F v d) : ∀ {fs : List (Str × V)} {j : Nat} {ds : List D}, (fs.map (·.1)).Nodup → (fs.map (·.1))[j]? = some f → IsL K T F (fs.map (·.2)) ds →
    (putF f v fs).map (·.1) = fs.map (·.1) ∧ IsL K T F ((putF f v fs).map (·.2)) (ds.set j d)
  | [], _, _, _, h, _ => by simp at h
  | (g, u) :: r, 0, ds, nd, h, l => by
    simp at h
    subst h
    cases l with
    | cons i l => exact ⟨by simp [putF], by simpa [putF] using IsL.cons iv l⟩
  | (g, u) :: r, j + 1, ds, nd, h, l => by
    simp only [List.map_cons, List.nodup_cons] at nd
    simp only [List.map_cons, List.getElem?_cons_succ] at h
    have ne : g ≠ f := fun z => nd.1 (z ▸ List.mem_of_getElem? h)
    cases l with
    | cons i l =>
      obtain ⟨h1, h2⟩ := putF_old iv nd.2 h l
      simp only [putF, if_neg ne, List.map_cons, List.set_cons_succ]
      exact ⟨by rw [h1], .cons i h2⟩
theorem putF_new {K : PySem.W.Frag} {F : Hp} {f : Str} {v : V} {d : D} (iv : Is K T F v d) : ∀ {fs : List (Str × V)} {ds : List D}, f ∉ fs.map (·.1) → IsL K T F (fs.map (·.2)) ds →
    (putF f v fs).map (·.1) = fs.map (·.1) ++ [f] ∧ IsL K T F ((putF f v fs).map (·.2)) (ds ++ [d])
  | [], ds, _, l => by
    cases l
    exact ⟨rfl, .cons iv .nil⟩
  | (g, u) :: r, ds, h, l => by
    simp only [List.map_cons, List.mem_cons, not_or] at h
    cases l with
    | cons i l =>
      obtain ⟨h1, h2⟩ := putF_new iv h.2 l
      simp only [putF, if_neg (fun z : g = f => h.1 z.symm), List.map_cons, List.cons_append]
      exact ⟨by rw [h1], .cons i h2⟩
def putD (ds : List D) (j : Nat) (d : D) : Option (List D) := if decide (j < ds.length) then some (ds.set j d) else if decide (j = ds.length) then some (ds ++ [d]) else none
theorem own_put {K : PySem.W.Frag} {B F H : Hp} {σ : L2.St} {ρ : En} {f : Str} {tbl : Nat → Option Nat} {c j : Nat} {ds es : List D} {v : V} {d : D} (k : FldOk K T f tbl) (hl : (T.fl c).length < 1000) (w : Wd K T B F H σ ρ) (h : ρ[i]? = some (some (.oi c ds))) (ej : tbl c = some j) (ep : putD ds j d = some es) (iv : Is K T F v d) :
    ∃ a dx fs, σ[i]? = some (some (.ref a)) ∧ H a = some (.ins (T.cl c) dx fs) ∧ Cls K (T.cl c) ∧ NoAttr K (T.cl c) f ∧ fs.length < 1000 ∧ Wd K T B F (upd H a (.ins (T.cl c) dx (putF f v fs))) σ (ρ.set i (some (.oi c es))) := by
  obtain ⟨k1, k2, k3, k4⟩ := k.ok c j ej
  obtain ⟨x, fp, ev, o, _⟩ := w.own h
  obtain ⟨a, dx, fs, rfl, _, ha, hn, l⟩ := id o.oiI
  have hlen : fs.length = ds.length := by
    have z := l.length
    simpa using z
  have hle : ds.length ≤ (T.fl c).length := by
    have z := congrArg List.length hn
    simp at z
    omega
  refine ⟨a, dx, fs, ev, ha, k1, k2, by omega, w.turn h ev (.oi ha hn l) ?_⟩
  unfold putD at ep
  have hj : j < (T.fl c).length := (List.getElem?_eq_some_iff.mp k3).1
  split at ep
  · rename_i hjl
    cases ep
    have hjl := of_decide_eq_true hjl
    obtain ⟨h1, h2⟩ := putF_old iv (f := f) (fs := fs) (j := j) (by rw [hn]; exact k4.sublist (List.take_sublist _ _)) (by rw [hn, List.getElem?_take_of_lt hjl]; exact k3) l
    exact .oi upd_same (by rw [h1, hn, List.length_set]) h2
  · split at ep
    · rename_i hjl
      cases ep
      have hjl := of_decide_eq_true hjl
      have nf : f ∉ fs.map (·.1) := by
        rw [hn]
        intro m
        obtain ⟨q, hq, e⟩ := List.mem_take_iff_getElem.mp m
        have e2 := (List.getElem?_eq_some_iff.mp k3).2
        have := (List.getElem_inj k4).mp (e.trans e2.symm)
        omega
      obtain ⟨h1, h2⟩ := putF_new iv nf l
      refine .oi upd_same ?_ h2
      rw [h1, hn, List.length_append, List.length_singleton, ← hjl, List.take_succ, k3]
      rfl
    · cases ep
def sFldS (tbl : Nat → Option Nat) (i : Nat) (f : En → Out D) : En → SOut := fun ρ => (f ρ).st fun d ρ => match ρ[i]? with
  | some (some (.oi c ds)) => (match tbl c with
    | some j => (match putD ds j d with
      | some es => .nx (ρ.set i (some (.oi c es)))
      | none => .er)
    | none => .er)
  | _ => .er
theorem z_fld {nm : Str} {tbl : Nat → Option Nat} (k : FldOk X.K T nm tbl) (hl : ∀ c j, tbl c = some j → (T.fl c).length < 1000) (ho : PE X o (tVar i)) (h : PF X T W e f) (hs : swapsWith e (some (.Attribute o nm p)) pos.line X.env = pure false := by rfl) : ZF X T W bs (.Assign [.Attribute o nm p] e pos) (sFldS tbl i f) := by
  obtain ⟨t, ht, hp⟩ := h
  refine ⟨_, ps_fld ho ht hs, fun B F H σ ρ E w q => hp B F H σ ρ _ w (PostS.ofP q fun d ρ1 F1 H1 v g1 w1 i1 q1 => ?_)⟩
  split at q1
  · rename_i c ds e1
    split at q1
    · rename_i j ej
      split at q1
      · rename_i es ep
        obtain ⟨a, dx, fs, ev, ha, k1, k2, k3, w2⟩ := own_put k (hl c j ej) w1 e1 ej ep i1
        exact ⟨_, ev, a, _, dx, fs, rfl, ha, k1, k2, k3, q1 F1 _ σ Gw.refl Kp.refl w2⟩
      · exact q1.elim
    · exact q1.elim
  · exact q1.elim
/-- self.f += int -/
def sFldA (tbl : Nat → Option Nat) (i : Nat) (g : Int → Int → Int) (f : En → Out D) : En → SOut := fun ρ => match ρ[i]? with
  | some (some (.oi c ds)) => (match tbl c with
    | some j => (match ds[j]? with
      | some (.int a) => (f ρ).st fun d ρ => (match d, ρ[i]? with
        | .int b, some (some (.oi c2 es)) => if decide (c2 = c) then (match putD es j (.int (g a b)) with
          | some es => .nx (ρ.set i (some (.oi c es)))
          | none => .er) else .er
        | _, _ => .er)
      | _ => .er)
    | none => .er)
  | _ => .er
def rII (g : Int → Int → Int) : V → V → Hp → VK → Prop := fun x y H Q => ∃ i j, x = .int i ∧ y = .int j ∧ Q (.int (g i j)) H
theorem z_fldA {op : Operator} {g : Int → Int → Int} {nm : Str} {tbl : Nat → Option Nat} (ip : InOp X op (rII g)) (k : FldOk X.K T nm tbl) (hl : ∀ c j, tbl c = some j → (T.fl c).length < 1000) (ho : PE X o (tVar i)) (h : PF X T W e f) : ZF X T W bs (.AugAssign (.Attribute o nm p) op e pos) (sFldA tbl i g f) := by
  obtain ⟨t, ht, hp⟩ := h
  refine ⟨_, ps_fldaug ho ht ip, fun B F H σ ρ E w q => ?_⟩
  unfold sFldA at q
  split at q
  · rename_i c ds e1
    split at q
    · rename_i j ej
      split at q
      · rename_i a0 ea
        obtain ⟨k1, k2, k3, k4⟩ := k.ok c j ej
        obtain ⟨x, fp, ev, ow, _⟩ := w.own e1
        obtain ⟨a, dx, fs, rfl, _, ha, hn, l⟩ := id ow.oiI
        obtain ⟨v0, e0, i0⟩ := l.get ea
        have hj : j < ds.length := (List.getElem?_eq_some_iff.mp ea).1
        refine ⟨_, ev, a, _, dx, fs, v0, rfl, ha, k1, k2, lookup_at (by rw [hn]; exact k4.sublist (List.take_sublist _ _)) (by rw [hn, List.getElem?_take_of_lt hj]; exact k3) e0, hp B F H σ ρ _ w (PostS.ofP q fun d ρ1 F1 H1 u g1 w1 i1 q1 => ?_)⟩
        split at q1
        · rename_i b c2 es e2
          split at q1
          · rename_i hc
            obtain rfl := of_decide_eq_true hc
            split at q1
            · rename_i es2 ep
              obtain ⟨a2, dx2, fs2, ev2, ha2, k1, k2, k3, w2⟩ := own_put k (hl c2 j ej) w1 e2 ej ep (.int (g a0 b))
              rw [ev] at ev2
              cases ev2
              exact ⟨a0, b, i0.intI, i1.intI, dx2, fs2, ha2, k3, q1 F1 _ σ Gw.refl Kp.refl w2⟩
            · exact q1.elim
          · exact q1.elim
        · exact q1.elim
      · exact q.elim
    · exact q.elim
  · exact q.elim
end
end Ce
namespace Ce
open PySem PySem.Spec PyProof.Rows L2 Ce

/-! ### name = [.. for ..] -/
section
variable {X : Cx} {T : Ct} {W : WX} {bs ts : List Nat} {elt tg iter c : Expr} {scope : Scope} {vz : List Nat} {own : List (Str × Nat)} {pos spos py : Pos} {f : En → Out (List D)} {g : D → En → Option En} {ft : En → Out Bool} {fe : En → Out D} {i : Nat} {y : Str}
theorem setN_post {B F : Hp} {σ : L2.St} {r : Out (List D)} {E : Ends} (hb : bs.contains i = false) (q : PostS X.K T W bs B F σ (r.st fun ds ρ => .nx (ρ.set i (some (.ol ds)))) E) : PostN X.K T W B F σ r fun x H1 => E.nx (σ.set i (some x)) H1 :=
  PostS.ofX q fun ds ρ1 q1 F1 H1 a vs g1 b0 f0 w1 l1 => by
    refine q1 F1 H1 _ g1 (Kp.set hb) ?_
    by_cases h : i < σ.length
    · exact w1.give b0 f0 l1 h
    · rw [List.set_eq_of_length_le (by omega), List.set_eq_of_length_le (by have := w1.l; omega)]
      exact w1.less (same_upd b0)
theorem z_setLc0 (hc : X.calm = true) (hN : X.N.Nodup) (hy : X.N[i]? = some y) (hyl : X.env.scope.names.lookup y = some .local) (hsw : swapsWith (.ListComp elt [⟨tg, iter, [], 0⟩] scope pos) (some (.Name y py)) spos.line X.env = pure true)
    (hi : IF X T W tg iter f) (ok : BlkOk X.N X.env.scope scope own) (hg : ∀ (s : Shared) (H : Hp) (C : Addr) (cl : List (Str × Addr)) (fp : List Addr), GF (X.blk s H scope (compEnvC scope cl C X.env) fp) T ts tg g)
    (he : ∀ (s : Shared) (H : Hp) (C : Addr) (cl : List (Str × Addr)) (fp : List Addr), PF (X.blk s H scope (compEnvC scope cl C X.env) fp) T noW elt fe) (hb : bs.contains i = false := by rfl) (hvs : own.map (·.2) = vz := by rfl) (hts : (ts.all fun i => (own.map (·.2)).contains i) = true := by rfl) (hs : ∀ x, foldedSetIterable iter X.env x = pure x := by intro _; rfl) :
    ZF X T W bs (.Assign [.Name y py] (.ListComp elt [⟨tg, iter, [], 0⟩] scope pos) spos) (sSetN i (nLc f g always fe vz)) := by
  subst hvs
  obtain ⟨wi, hwi, hpi⟩ := hi
  refine ⟨_, ps_setLc hc hN hy hyl hsw hwi ok (g := tGF X.K T ts g) (tt := tYes) (te := tPF X.K T noW fe) (fun s H C cl fp => (hg s H C cl fp).pg) (fun s H C cl fp => pts_nil) (fun s H C cl fp => (he s H C cl fp).pe) hs, fun B F H σ ρ E w q => ?_⟩
  have q := setN_post hb q
  refine hpi B F H σ ρ _ w ((PostX.bind q).imp fun ds ρ1 _ q1 F1 H1 J G Y g1 w1 wk hG cm a ha => ?_)
  split at q1
  · rename_i out ρ2 e2
    exact lc_ok (ts := ts) (ft := always) (Q := fun x H1 => E.nx (σ.set i (some x)) H1) tYes (fun B F H σ ρ Q w q => q F H true Gw.refl w rfl) hts w1 g1 wk (fun H2 s _ => hG H2 s) cm e2 q1 a ha
  · exact q1.elim
theorem z_setLc1 (hc : X.calm = true) (hN : X.N.Nodup) (hy : X.N[i]? = some y) (hyl : X.env.scope.names.lookup y = some .local) (hsw : swapsWith (.ListComp elt [⟨tg, iter, [c], 0⟩] scope pos) (some (.Name y py)) spos.line X.env = pure true)
    (hi : IF X T W tg iter f) (ok : BlkOk X.N X.env.scope scope own) (hg : ∀ (s : Shared) (H : Hp) (C : Addr) (cl : List (Str × Addr)) (fp : List Addr), GF (X.blk s H scope (compEnvC scope cl C X.env) fp) T ts tg g)
    (ht : ∀ (s : Shared) (H : Hp) (C : Addr) (cl : List (Str × Addr)) (fp : List Addr), TF (X.blk s H scope (compEnvC scope cl C X.env) fp) T noW c ft)
    (he : ∀ (s : Shared) (H : Hp) (C : Addr) (cl : List (Str × Addr)) (fp : List Addr), PF (X.blk s H scope (compEnvC scope cl C X.env) fp) T noW elt fe) (hb : bs.contains i = false := by rfl) (hvs : own.map (·.2) = vz := by rfl) (hts : (ts.all fun i => (own.map (·.2)).contains i) = true := by rfl) (hs : ∀ x, foldedSetIterable iter X.env x = pure x := by intro _; rfl) :
    ZF X T W bs (.Assign [.Name y py] (.ListComp elt [⟨tg, iter, [c], 0⟩] scope pos) spos) (sSetN i (nLc f g ft fe vz)) := by
  subst hvs
  obtain ⟨wi, hwi, hpi⟩ := hi
  refine ⟨_, ps_setLc hc hN hy hyl hsw hwi ok (g := tGF X.K T ts g) (tt := tTF X.K T noW ft) (te := tPF X.K T noW fe) (fun s H C cl fp => (hg s H C cl fp).pg) (fun s H C cl fp => pts_one (ht s H C cl fp).pt) (fun s H C cl fp => (he s H C cl fp).pe) hs, fun B F H σ ρ E w q => ?_⟩
  have q := setN_post hb q
  refine hpi B F H σ ρ _ w ((PostX.bind q).imp fun ds ρ1 _ q1 F1 H1 J G Y g1 w1 wk hG cm a ha => ?_)
  split at q1
  · rename_i out ρ2 e2
    exact lc_ok (ts := ts) (Q := fun x H1 => E.nx (σ.set i (some x)) H1) (tTF X.K T noW ft) (fun B F H σ ρ Q w q => ⟨B, F, ρ, w, q⟩) hts w1 g1 wk (fun H2 s _ => hG H2 s) cm e2 q1 a ha
  · exact q1.elim
end

/-! ### a def's body -/
/-- the arguments behind the body: those at bs as they stand, the frozen ones -/
def argE (bs : List Nat) (ρ0 ρ : En) : En := ρ0.mapIdx fun i o => if bs.contains i then (ρ[i]?).join else match o with
  | some (.im d) => some (.im d)
  | _ => none
def mOf (n : Nat) (bs : List Nat) (fb : En → SOut) : En → Out D := fun ρ => match fb (ρ ++ List.replicate (n - ρ.length) none) with
  | .nx ρ' => .ok .non (argE bs ρ ρ')
  | .rt d ρ' => .ok d (argE bs ρ ρ')
  | .ex x ρ' => .ex x (argE bs ρ ρ')
  | _ => .er
section
variable {K : PySem.W.Frag} {T : Ct} {B F F' H H' : Hp} {σ' : L2.St} {ρ ρ' : En} {vs : List V} {bs : List Nat} {n : Nat}
theorem argE_get {i : Nat} {o : O} (h : (argE bs ρ ρ')[i]? = some (some o)) : (bs.contains i = true ∧ ρ'[i]? = some (some o)) ∨ (bs.contains i = false ∧ ∃ d, o = .im d ∧ ρ[i]? = some (some (.im d))) := by
  unfold argE at h
  rw [List.getElem?_mapIdx] at h
  cases e : ρ[i]? with
  | none => rw [e] at h; cases h
  | some x =>
    rw [e] at h
    simp only [Option.map_some, Option.some.injEq] at h
    split at h
    · rename_i hb
      refine .inl ⟨hb, ?_⟩
      cases y : ρ'[i]? with
      | none => rw [y] at h; cases h
      | some z => rw [y] at h; simpa using h
    · rename_i hb
      refine .inr ⟨by simpa using hb, ?_⟩
      split at h
      · rename_i d
        cases h
        exact ⟨d, rfl, rfl⟩
      · cases h
theorem wd_args_back (w : Wd K T B F H (vs.map some) ρ) (s : Same F F') (w' : Wd K T B F' H' σ' ρ') (k : Kp bs (vs.map some ++ List.replicate n none) σ') (hbs : (bs.all fun i => decide (i < vs.length)) = true) : Wd K T B F' H' (vs.map some) (argE bs ρ ρ') := by
  obtain ⟨φ, h1, h2, h3⟩ := w'.o
  refine ⟨w'.b, w'.f, by rw [w.l]; simp [argE], fun i => if bs.contains i then φ i else [], fun i o e => ?_, fun i j a m1 m2 => ?_, fun i a m => ?_⟩
  · dsimp only
    rcases argE_get e with ⟨hb, e'⟩ | ⟨hb, d, rfl, e'⟩
    · rw [if_pos hb]
      obtain ⟨v, ev, q⟩ := h1 i o e'
      have hi : i < vs.length := of_decide_eq_true (List.all_eq_true.mp hbs i (by simpa using hb))
      refine ⟨v, ?_, q⟩
      rw [k i (by simpa using hb), List.getElem?_append_left (by simpa using hi)] at ev
      exact ev
    · rw [if_neg (by rw [hb]; simp)]
      obtain ⟨v, ev, iv⟩ := w.get e'
      exact ⟨v, ev, .im (iv.mono s)⟩
  · dsimp only at m1 m2
    split at m1
    · split at m2
      · exact h2 i j a m1 m2
      · cases m2
    · cases m1
  · dsimp only at m
    split at m
    · rename_i hb
      obtain ⟨⟨o, e⟩, y, z⟩ := h3 i a m
      refine ⟨⟨o, ?_⟩, y, z⟩
      have hi : i < vs.length := of_decide_eq_true (List.all_eq_true.mp hbs i (by simpa using hb))
      have hi2 : i < ρ.length := by have := w.l; simp at this; omega
      unfold argE
      rw [List.getElem?_mapIdx, List.getElem?_eq_getElem hi2]
      simp only [Option.map_some, hb, if_true, e, Option.join]
      rfl
    · cases m
theorem wd_start {m : Nat} (w : Wd K T B F H (vs.map some) ρ) : Wd K T B F H (vs.map some ++ List.replicate m none) (ρ ++ List.replicate m none) := by
  obtain ⟨φ, h1, h2, h3⟩ := w.o
  have hl : vs.length = ρ.length := by have := w.l; simpa using this
  refine ⟨w.b, w.f, by simp [hl], φ, fun i o e => ?_, h2, fun i a m => ?_⟩
  · by_cases h : i < ρ.length
    · rw [List.getElem?_append_left h] at e
      obtain ⟨v, ev, q⟩ := h1 i o e
      exact ⟨v, by rw [List.getElem?_append_left (by simpa [hl] using h)]; exact ev, q⟩
    · rw [List.getElem?_append_right (by omega), List.getElem?_replicate] at e
      split at e <;> cases e
  · obtain ⟨⟨o, e⟩, y⟩ := h3 i a m
    have h : i < ρ.length := (List.getElem?_eq_some_iff.mp e).1
    exact ⟨⟨o, by rw [List.getElem?_append_left h]; exact e⟩, y⟩
end
section
variable {P : Program} {w : World} {K : PySem.W.Frag} {mg : Str → Option Value} {base : Heap} {x qual : Str} {params : Arguments} {body : List Stmt} {scope : Scope} {dvs : List V} {kws : List (Str × V)} {f : Addr} {fd : FuncData} {T : Ct}
/-- THE RULE of a def: its body runs as fb says, so the def runs as mOf says -/
theorem fn_ok {N ps : List Str} {k : Nat} {bs : List Nat} {fb : En → SOut} (Fd : FunD K x qual params body scope dvs kws f fd) (S : FnScope N ps scope) (hbs : (bs.all fun i => decide (i < ps.length)) = true)
    (hb : ∀ (cdv : Value) (A : Around) (outer : List Env) (s : Shared) (H : Hp) (E : XK), Room k (A.deeper (envOfC qual scope s.heap.objs.size f cdv)) → ZFs (cxOf (L2.CX P w) P w K mg base N qual scope f cdv A outer s H E) T (fun c dd _ H' => E c dd H') bs body fb) :
    FnOk P w K mg base (L2.CX P w) (k + 1) f fd ps (spM K T ps.length (mOf N.length bs fb)) := by
  refine FunD.ok Fd S (fun vs H Q E h => h.1) fun cdv A outer s H vs Q E hr ⟨hl, B, F, ρ, w0, q⟩ => ?_
  obtain ⟨t, ht, hp⟩ := hb cdv A outer s H E hr
  refine ⟨t, ht, hp B F H _ _ _ (wd_start w0) ?_⟩
  have hρ : ρ.length = vs.length := by have := w0.l; simpa using this.symm
  have hbs' : (bs.all fun i => decide (i < vs.length)) = true := by rw [hl]; exact hbs
  unfold mOf at q
  rw [hρ] at q
  revert q
  cases fb (ρ ++ List.replicate (N.length - vs.length) none) with
  | nx ρ' => exact fun q F' H' σ' g k' w' => q F' H' .non g (wd_args_back w0 g.s w' k' hbs') .non
  | rt d ρ' => exact fun q F' H' σ' v g k' w' i => q F' H' v g (wd_args_back w0 g.s w' k' hbs') i
  | ex y ρ' => exact fun q F' H' σ' c dd g k' w' e => q F' H' c dd g (wd_args_back w0 g.s w' k' hbs') e
  | bk ρ' => exact fun q => q.elim
  | ct ρ' => exact fun q => q.elim
  | er => exact fun q => q.elim
end
end Ce
namespace Ce
open PySem PySem.Spec PyProof.Rows L2 Ce

/-! ### where a def stands -/
inductive Pa where
  | g (x : Str) | m (C f : Str) | p (C f : Str) | s (C f : Str)
def recOf (K : PySem.W.Frag) (a : Addr) (T : String) : Addr := match PySem.W.recIn K a T with
  | some (.ref g :: _) => g
  | _ => 0
def adr (K : PySem.W.Frag) : Pa → Addr
  | .g x => He.ga K x
  | .m C f => He.ma K (He.ga K C) f
  | .p C f => recOf K (He.ma K (He.ga K C) f) "property"
  | .s C f => recOf K (He.ma K (He.ga K C) f) "staticmethod"
structure Df where
  at_ : Pa
  name : Str
  qual : Str
  params : Arguments
  body : List Stmt
  scope : Scope
  dfl : List He.Dv := []
  kwd : List (Str × He.Dv) := []
def fnX (K : PySem.W.Frag) (a : Addr) : He.FnW := match K.lookup a with
  | some ⟨_, _, .func fd, _⟩ => some (fd.name, fd.qualname, fd.params, fd.body, fd.scope, fd.globals, fd.closure, fd.builtins)
  | _ => none
def Df.val (d : Df) : He.FnW := some (d.name, d.qual, d.params, .stmts d.body, d.scope, mainGlobals, [], builtinsNs)
def Df.dvs (K : PySem.W.Frag) (d : Df) : List V := d.dfl.map (He.Dv.v K)
def Df.kws (K : PySem.W.Frag) (d : Df) : List (Str × V) := d.kwd.map fun q => (q.1, q.2.v K)
def Df.ok (K : PySem.W.Frag) (d : Df) : Bool := PySem.W.keepIn K (.ref (adr K d.at_)) && (match K.lookup (adr K d.at_) with
  | some ⟨_, _, .func fd, _⟩ => PySem.W.codeIn K fd.code d.qual && (He.dflB K fd.defaults (d.dvs K) && He.kwdB K fd.kwdefaults (d.kws K))
  | _ => false)
abbrev Df.Ok (K : PySem.W.Frag) (d : Df) (fd : FuncData) : Prop := FunD K d.name d.qual d.params d.body d.scope (d.dvs K) (d.kws K) (adr K d.at_) fd
theorem Df.funD {K : PySem.W.Frag} {d : Df} (e : fnX K (adr K d.at_) = d.val) (c : d.ok K = true) : ∃ fd, d.Ok K fd := by
  obtain ⟨kp, c2⟩ := Bool.and_eq_true_iff.mp c
  unfold fnX at e
  cases q : K.lookup (adr K d.at_) with
  | none => rw [q] at c2; cases c2
  | some o =>
    obtain ⟨oc, od, dt, osl⟩ := o
    rw [q] at c2 e
    cases dt with
    | func fd =>
      obtain ⟨n1, n2, n3, n4, n5, n6, n7, n8, n9, n10, n11, n12, n13, n14, n15⟩ := fd
      have e2 : (some (n1, n2, n3, n4, n5, n6, n7, n15) : He.FnW) = some (d.name, d.qual, d.params, .stmts d.body, d.scope, mainGlobals, [], builtinsNs) := e
      simp only [Option.some.injEq, Prod.mk.injEq] at e2
      obtain ⟨h1, h2, h3, h4, h5, h6, h7, h8⟩ := e2
      subst h1 h2 h3 h4 h5 h6 h7 h8
      have c3 : (PySem.W.codeIn K n13 d.qual && (He.dflB K n8 (d.dvs K) && He.kwdB K n9 (d.kws K))) = true := c2
      obtain ⟨k1, k2⟩ := Bool.and_eq_true_iff.mp c3
      obtain ⟨k3, k4⟩ := Bool.and_eq_true_iff.mp k2
      exact ⟨_, ⟨oc, od, n8, n9, n10, n11, n12, n13, n14, osl, rfl, q, k1, He.dflB_ok k3, He.kwdB_ok k4⟩, kp⟩
    | _ => cases c2
/-! ### the Hook: facts L, defs fn -/
/-- what an object names that a def's facts may ask for -/
def kidsX (g : Addr → Option Obj) (a : Addr) : List Addr := match g a with
  | some o => (match o.data with
    | .func fd => He.refV fd.code ++ He.refV fd.defaults ++ He.refV fd.kwdefaults
    | .cls cd => cd.ns :: cd.mro.flatMap He.refV
    | .fields vs => vs.toList.flatMap He.refV
    | _ => [])
  | none => []
/-- the values of a dict that are functions, classes, records -/
def valsX (g : Addr → Option Obj) (a : Addr) : List Addr := match g a with
  | some o => (match o.data with
    | .dict es _ => (es.toList.flatMap fun e => He.refV e.val).filter fun b => match g b with
      | some u => (match u.data with
        | .func _ => true
        | .cls _ => true
        | .fields _ => true
        | .seq _ _ => true
        | _ => false)
      | none => false
    | _ => [])
  | none => []
/-- the globals, the classes' names, the functions' codes -/
def asX (g : Addr → Option Obj) : List Addr :=
  let l1 := valsX g mainGlobals
  let l2 := l1.flatMap (kidsX g)
  let l3 := l2.flatMap (valsX g)
  let l4 := l3.flatMap (kidsX g)
  let l5 := l4.flatMap (kidsX g)
  mainGlobals :: cStatics :: l1 ++ l2 ++ l3 ++ l4 ++ l5
abbrev AlX : Type := Bool × List He.FnW
def obsX (L : PySem.W.Frag → List Bool) (fn : List Df) (K : PySem.W.Frag) : AlX := ((L K).all id && fn.all fun d => d.ok K, fn.map fun d => fnX K (adr K d.at_))
def valX (fn : List Df) : AlX := (true, fn.map Df.val)
def SaysX (L : PySem.W.Frag → List Bool) (fn : List Df) (K : PySem.W.Frag) : Prop := obsX L fn K = valX fn
def obsXG (L : PySem.W.Frag → List Bool) (fn : List Df) (g : Addr → Option Obj) : AlX := obsX L fn (He.frG g (asX g))
def hookX (L : PySem.W.Frag → List Bool) (fn : List Df) : PySem.W.Hook where
  α := AlX
  obs := fun s => obsXG L fn s.heap.get?
  val := fun _ => valX fn
  says := fun _ h => ∃ K : PySem.W.Frag, K.In h ∧ SaysX L fn K
  of := fun _ _ e => ⟨_, He.frG_in, e⟩
  keeps := fun _ _ _ ⟨K, hK, c⟩ k => ⟨K, PySem.W.Frag.In.keeps hK k, c⟩
theorem obsXG_eq {L : PySem.W.Frag → List Bool} {fn : List Df} {g : Addr → Option Obj} {s : Shared} (h : ∀ a, g a = s.heap.get? a) : obsXG L fn g = (hookX L fn).obs s := by
  have e : g = s.heap.get? := funext h
  rw [e] <;> rfl
section
variable {L : PySem.W.Frag → List Bool} {fn : List Df} {K : PySem.W.Frag}
theorem SaysX.fact (c : SaysX L fn K) (i : Nat) {b : Bool} (h : (L K)[i]? = some b := by rfl) : b = true := by
  have c1 := (Bool.and_eq_true_iff.mp (show ((L K).all id && fn.all fun d => d.ok K) = true from congrArg (fun z : AlX => z.1) c)).1
  exact List.all_eq_true.mp c1 b (List.mem_of_getElem? h)
theorem SaysX.def_ (c : SaysX L fn K) (i : Nat) {d : Df} (h : fn[i]? = some d := by rfl) : ∃ fd, d.Ok K fd := by
  have c2 := (Bool.and_eq_true_iff.mp (show ((L K).all id && fn.all fun d => d.ok K) = true from congrArg (fun z : AlX => z.1) c)).2
  have e : fn.map (fun d => fnX K (adr K d.at_)) = fn.map Df.val := congrArg (fun z : AlX => z.2) c
  have e2 : (fn.map fun d => fnX K (adr K d.at_))[i]? = (fn.map Df.val)[i]? := by rw [e]
  rw [List.getElem?_map, List.getElem?_map, h] at e2
  exact Df.funD (Option.some.inj e2) (List.all_eq_true.mp c2 d (List.mem_of_getElem? h))
end
/-! ### facts -/
def fFree (x : Str) (K : PySem.W.Frag) : Bool := (He.Fa.free x).ok K
def fGlo (x : Str) (K : PySem.W.Frag) : Bool := (He.Fa.glo x).ok K && PySem.W.keepIn K (.ref (He.ga K x))
/-- a global that is a built-in -/
def fBlt (x : Str) (id : String) (K : PySem.W.Frag) : Bool := He.eqO (PySem.W.nsIn K mainGlobals x) (some (some (.builtin id)))
def fCls (C : Str) (K : PySem.W.Frag) : Bool := (He.Fa.cls C).ok K && (He.eqO (PySem.W.findIn K (.ref (He.ga K C)) "__class__") (some (some (.builtin "object.__class__"))) && (He.eqO (PySem.W.specialIn K (.builtin "object.__class__") "__get__") (some (some (.builtin "getset_descriptor.__get__"))) &&
  (decide (PySem.W.takesIn K (.builtin "object.__class__") = some true) && decide (PySem.W.mroIn K (He.ga K C) (.type "object") = some true))))
def fNo (C f : Str) (K : PySem.W.Frag) : Bool := (He.Fa.noat C f).ok K
def fMeth (C f : Str) (K : PySem.W.Frag) : Bool := (He.Fa.meth C f).ok K
def fMk (C : Str) (K : PySem.W.Frag) : Bool := (He.Fa.mkr C).ok K
def fBin (C : Str) (op : Operator) (f : Str) (K : PySem.W.Frag) : Bool := PySem.W.selfFirst K (He.ga K C) && (He.eqO (PySem.W.findIn K (.ref (He.ga K C)) (PySem.dunder op.info.2)) (some (some (.ref (He.ma K (He.ga K C) f)))) && PySem.W.isFn K (.ref (He.ma K (He.ga K C) f)))
def fNeg (C : Str) (K : PySem.W.Frag) : Bool := He.eqO (PySem.W.findIn K (.ref (He.ga K C)) "__neg__") (some (some (.ref (He.ma K (He.ga K C) "__neg__")))) && PySem.W.isFn K (.ref (He.ma K (He.ga K C) "__neg__"))
def fEq (C : Str) (K : PySem.W.Frag) : Bool := He.eqO (PySem.W.findIn K (.ref (He.ga K C)) "__eq__") (some (some (.ref (He.ma K (He.ga K C) "__eq__")))) && (PySem.W.isFn K (.ref (He.ma K (He.ga K C) "__eq__")) &&
  (He.eqO (PySem.W.findIn K (.ref (He.ga K C)) "__ne__") (some (some (.builtin "object.__ne__"))) && decide (PySem.W.mroIn K (He.ga K C) (.type "object") = some true)))
def fPrp (C f : Str) (K : PySem.W.Frag) : Bool := He.eqO (PySem.W.findIn K (.ref (He.ga K C)) f) (some (some (.ref (He.ma K (He.ga K C) f)))) && (He.eqO (PySem.W.specialIn K (.ref (He.ma K (He.ga K C) f)) "__get__") (some (some (.builtin "property.__get__"))) &&
  (decide (PySem.W.takesIn K (.ref (He.ma K (He.ga K C) f)) = some true) && (match PySem.W.recIn K (He.ma K (He.ga K C) f) "property" with
    | some (.ref _ :: _) => true
    | _ => false)))
def fSt (C f : Str) (K : PySem.W.Frag) : Bool := PySem.W.readsIn K (He.ga K C) (.type "type") && (He.eqO (PySem.W.specialIn K (.ref (He.ga K C)) "__getattribute__") (some (some (.builtin "type.__getattribute__"))) && ((match PySem.W.findCls K (.ref (He.ga K C)) (.type "type") f with
    | some (.get (.builtin i) (.ref p) .none (.ref c)) => decide (i = "staticmethod.__get__") && (decide (p = He.ma K (He.ga K C) f) && decide (c = He.ga K C))
    | _ => false) && ((match PySem.W.recIn K (He.ma K (He.ga K C) f) "staticmethod" with
    | some (.ref _ :: _) => true
    | _ => false) && PySem.W.keepIn K (.ref (recOf K (He.ma K (He.ga K C) f) "staticmethod")))))
/-- isinstance of the classes Cs, by the class C, by the types ns -/
def fIs (C : Str) (Cs : List Str) (K : PySem.W.Frag) : Bool := (Cs.all fun D => decide (PySem.W.kitOne K (.ref (He.ga K D)) (.ref (He.ga K C)) = some (decide (D = C)))) && ["NoneType", "bool", "int", "str", "list", "tuple"].all fun n => decide (PySem.W.kitOne K (.type n) (.ref (He.ga K C)) = some false)
def fIsT (n : String) (Cs : List Str) (K : PySem.W.Frag) : Bool := Cs.all fun D => decide (PySem.W.kitOne K (.ref (He.ga K D)) (.type n) = some false)
/-- the classes stand apart -/
def fApart (Cs : List Str) (K : PySem.W.Frag) : Bool := decide (Cs.map (He.ga K)).Nodup && (Cs.all fun C => decide (He.ga K C < 1000000000000))
/-- the classes by number -/
def ctOf (Cs : List (Str × List Str)) (K : PySem.W.Frag) : Ct where
  cl := fun c => match Cs[c]? with
    | some C => He.ga K C.1
    | none => 1000000000000 + c
  fl := fun c => match Cs[c]? with
    | some C => C.2
    | none => []
section
variable {K : PySem.W.Frag} {h : Heap} {mg : Str → Option Value} {Cs : List (Str × List Str)} {x C f : Str} {c : Nat}
theorem free_of (X : K.In h) (G : h.Ns mainGlobals mg) (b : fFree x K = true) : mg x = none := He.free_ok X G b
theorem glo_of (X : K.In h) (G : h.Ns mainGlobals mg) (b : fGlo x K = true) : mg x = some (.ref (He.ga K x)) := He.glo_ok X G (Bool.and_eq_true_iff.mp b).1
theorem keep_of (b : fGlo x K = true) : PySem.W.keepIn K (.ref (He.ga K x)) = true := (Bool.and_eq_true_iff.mp b).2
theorem blt_of {id : String} (X : K.In h) (G : h.Ns mainGlobals mg) (b : fBlt x id K = true) : mg x = some (.builtin id) := PySem.W.mg_of X G (He.eqO_ok b)
theorem cls_of (b : fCls C K = true) : Cls K (He.ga K C) ∧ SlX.SIsi K (He.ga K C) := by
  obtain ⟨b0, b⟩ := Bool.and_eq_true_iff.mp b
  obtain ⟨b1, b⟩ := Bool.and_eq_true_iff.mp b
  obtain ⟨b2, b⟩ := Bool.and_eq_true_iff.mp b
  obtain ⟨b3, b4⟩ := Bool.and_eq_true_iff.mp b
  exact ⟨He.cls_ok b0, He.eqO_ok b1, He.eqO_ok b2, of_decide_eq_true b3, of_decide_eq_true b4⟩
theorem in_of (hc : Cs[c]?.map (·.1) = some C) (b : fCls C K = true) : InOk K (ctOf Cs K) c := by
  have e : (ctOf Cs K).cl c = He.ga K C := by
    cases z : Cs[c]? with
    | none => rw [z] at hc; cases hc
    | some q => rw [z] at hc; simp at hc; simp [ctOf, z, hc]
  obtain ⟨k1, k2⟩ := cls_of b
  exact ⟨e ▸ k1, e ▸ k2⟩
theorem ct_cl (hc : Cs[c]?.map (·.1) = some C) : (ctOf Cs K).cl c = He.ga K C := by
  cases z : Cs[c]? with
  | none => rw [z] at hc; cases hc
  | some q => rw [z] at hc; simp at hc; simp [ctOf, z, hc]
theorem mt_of {a : Str} (hc : Cs[c]?.map (·.1) = some C) (b : fCls C K = true) (b2 : fMeth C a K = true) (hn : ((ctOf Cs K).fl c).contains a = false := by rfl) : MtOk K (ctOf Cs K) c a (He.ma K (He.ga K C) a) := by
  have e := ct_cl (K := K) hc
  exact ⟨e ▸ (cls_of b).1, e ▸ He.meth_ok b2, hn⟩
theorem bin_of {op : Operator} (hc : Cs[c]?.map (·.1) = some C) (b : fBin C op f K = true) : BinOk K (ctOf Cs K) c op (He.ma K (He.ga K C) f) := by
  have e := ct_cl (K := K) hc
  obtain ⟨b0, b⟩ := Bool.and_eq_true_iff.mp b
  obtain ⟨b1, b2⟩ := Bool.and_eq_true_iff.mp b
  exact ⟨by rw [e]; exact b0, by rw [e]; exact He.eqO_ok b1, b2⟩
theorem neg_of (hc : Cs[c]?.map (·.1) = some C) (b : fNeg C K = true) : NegOk K (ctOf Cs K) c (He.ma K (He.ga K C) "__neg__") := by
  have e := ct_cl (K := K) hc
  obtain ⟨b0, b1⟩ := Bool.and_eq_true_iff.mp b
  exact ⟨by rw [e]; exact He.eqO_ok b0, b1⟩
theorem eq_of (hc : Cs[c]?.map (·.1) = some C) (b : fEq C K = true) : EqOk K (ctOf Cs K) c (He.ma K (He.ga K C) "__eq__") := by
  have e := ct_cl (K := K) hc
  obtain ⟨b0, b⟩ := Bool.and_eq_true_iff.mp b
  obtain ⟨b1, b⟩ := Bool.and_eq_true_iff.mp b
  obtain ⟨b2, b3⟩ := Bool.and_eq_true_iff.mp b
  exact ⟨by rw [e]; exact He.eqO_ok b0, b1, by rw [e]; exact He.eqO_ok b2, by rw [e]; exact of_decide_eq_true b3⟩
theorem mk_of (hc : Cs[c]?.map (·.1) = some C) (b : fMk C K = true) : Mk K ((ctOf Cs K).cl c) (He.ma K (He.ga K C) "__init__") := by
  rw [ct_cl (K := K) hc]
  exact He.mkr_ok b
theorem recOf_ok {a : Addr} {T : String} (h : (match PySem.W.recIn K a T with
    | some (.ref _ :: _) => true
    | _ => false) = true) : ∃ rest, PySem.W.recIn K a T = some (.ref (recOf K a T) :: rest) := by
  unfold recOf
  split at h
  · rename_i g r e
    rw [e]
    exact ⟨r, rfl⟩
  · cases h
theorem prp_of (hc : Cs[c]?.map (·.1) = some C) (b : fCls C K = true) (b2 : fPrp C f K = true) : PrOk K (ctOf Cs K) c f (He.ma K (He.ga K C) f) (adr K (.p C f)) := by
  have e := ct_cl (K := K) hc
  obtain ⟨b0, b2⟩ := Bool.and_eq_true_iff.mp b2
  obtain ⟨b1, b2⟩ := Bool.and_eq_true_iff.mp b2
  obtain ⟨b3, b4⟩ := Bool.and_eq_true_iff.mp b2
  exact ⟨by rw [e]; exact (cls_of b).1, by rw [e]; exact He.eqO_ok b0, He.eqO_ok b1, of_decide_eq_true b3, recOf_ok b4⟩
theorem st_of (b : fSt C f K = true) : StOk K (He.ga K C) (.type "type") f (He.ma K (He.ga K C) f) (adr K (.s C f)) := by
  obtain ⟨b0, b⟩ := Bool.and_eq_true_iff.mp b
  obtain ⟨b1, b⟩ := Bool.and_eq_true_iff.mp b
  obtain ⟨b2, b⟩ := Bool.and_eq_true_iff.mp b
  obtain ⟨b3, b4⟩ := Bool.and_eq_true_iff.mp b
  refine ⟨b0, He.eqO_ok b1, ?_, recOf_ok b3, b4⟩
  split at b2
  · rename_i i p c e
    obtain ⟨h1, b2⟩ := Bool.and_eq_true_iff.mp b2
    obtain ⟨h2, h3⟩ := Bool.and_eq_true_iff.mp b2
    rw [e, of_decide_eq_true h1, of_decide_eq_true h2, of_decide_eq_true h3]
  · cases b2
theorem apart_of (b : fApart (Cs.map (·.1)) K = true) : (ctOf Cs K).Inj := by
  obtain ⟨b0, b1⟩ := Bool.and_eq_true_iff.mp b
  have nd := of_decide_eq_true b0
  refine ⟨fun c c' e => ?_⟩
  have lt : ∀ (c : Nat) (q : Str × List Str), Cs[c]? = some q → He.ga K q.1 < 1000000000000 := fun c q z => of_decide_eq_true (List.all_eq_true.mp b1 q.1 (List.mem_map.mpr ⟨q, List.mem_of_getElem? z, rfl⟩))
  simp only [ctOf] at e
  cases z : Cs[c]? with
  | none =>
    cases z' : Cs[c']? with
    | none => rw [z, z'] at e; simp at e; exact e
    | some q =>
      rw [z, z'] at e
      have y := lt c' q z'
      have e' : 1000000000000 + c = He.ga K q.1 := e
      rw [← e'] at y
      exact absurd y (Nat.not_lt.mpr (Nat.le_add_right _ _))
  | some q =>
    cases z' : Cs[c']? with
    | none =>
      rw [z, z'] at e
      have y := lt c q z
      have e' : He.ga K q.1 = 1000000000000 + c' := e
      rw [e'] at y
      exact absurd y (Nat.not_lt.mpr (Nat.le_add_right _ _))
    | some q' =>
      rw [z, z'] at e
      simp at e
      have h1 : c < (Cs.map (·.1) |>.map (He.ga K)).length := by simpa using (List.getElem?_eq_some_iff.mp z).1
      have h2 : c' < (Cs.map (·.1) |>.map (He.ga K)).length := by simpa using (List.getElem?_eq_some_iff.mp z').1
      refine (List.getElem_inj (h₀ := h1) (h₁ := h2) nd).mp ?_
      have e1 : (Cs.map (·.1) |>.map (He.ga K))[c]? = some (He.ga K q.1) := by simp [z]
      have e2 : (Cs.map (·.1) |>.map (He.ga K))[c']? = some (He.ga K q'.1) := by simp [z']
      rw [List.getElem?_eq_getElem h1] at e1
      rw [List.getElem?_eq_getElem h2] at e2
      rw [Option.some.inj e1, Option.some.inj e2, e]
theorem fld_of {tbl : Nat → Option Nat} (h : ∀ c j, tbl c = some j → ∃ C, Cs[c]? = some C ∧ fCls C.1 K = true ∧ fNo C.1 f K = true ∧ C.2[j]? = some f ∧ C.2.Nodup) : FldOk K (ctOf Cs K) f tbl := by
  refine ⟨fun c j e => ?_⟩
  obtain ⟨C, h1, h2, h3, h4, h5⟩ := h c j e
  have z := ct_cl (K := K) (Cs := Cs) (c := c) (C := C.1) (by rw [h1]; rfl)
  have y : (ctOf Cs K).fl c = C.2 := by simp [ctOf, h1]
  rw [z, y]
  exact ⟨(cls_of h2).1, He.noat_ok h3, h4, h5⟩
def isChk (Cs : List (Str × List Str)) (c : Nat) (C : Str) (cs : List Nat) : Bool := cs.all fun c' => match Cs[c']? with
  | some D => decide (D.1 = C) == decide (c' = c)
  | none => false
theorem isC_of {cs : List Nat} {C : Str} (hc : Cs[c]?.map (·.1) = some C) (hcs : isChk Cs c C cs = true) (b : fIs C (Cs.map (·.1)) K = true) : IsC K (ctOf Cs K) c cs := by
  obtain ⟨b0, b1⟩ := Bool.and_eq_true_iff.mp b
  have e := ct_cl (K := K) hc
  refine ⟨fun c' m => ?_, fun n m => ?_⟩
  · have q := List.all_eq_true.mp hcs c' m
    cases z : Cs[c']? with
    | none => rw [z] at q; cases q
    | some D =>
      rw [z] at q
      have q := eq_of_beq q
      rw [e, ct_cl (K := K) (C := D.1) (by rw [z]; rfl), ← q]
      exact of_decide_eq_true (List.all_eq_true.mp b0 D.1 (List.mem_map.mpr ⟨D, List.mem_of_getElem? z, rfl⟩))
  · rw [e]
    exact of_decide_eq_true (List.all_eq_true.mp b1 n m)
theorem isT_of {n : String} {cs : List Nat} (hcs : (cs.all fun c => decide (c < Cs.length)) = true) (b : fIsT n (Cs.map (·.1)) K = true) : ∀ c' ∈ cs, PySem.W.kitOne K (.ref ((ctOf Cs K).cl c')) (.type n) = some false := fun c' m => by
  have q := of_decide_eq_true (List.all_eq_true.mp hcs c' m)
  have z : Cs[c']? = some Cs[c'] := List.getElem?_eq_getElem q
  rw [ct_cl (K := K) (C := Cs[c'].1) (by rw [z]; rfl)]
  exact of_decide_eq_true (List.all_eq_true.mp b Cs[c'].1 (List.mem_map.mpr ⟨Cs[c'], List.getElem_mem q, rfl⟩))
end
theorem takes_no {X : Cx} : Takes X noW := fun _ _ ⟨_, _, _, _, _, _, _, _, _, _, _, _, _, _, _, _, z⟩ => z.elim
end Ce
namespace Ce
open PySem PySem.Spec PyProof.Rows L2 Ce

/-! ### min, max of a list or a tuple of ints -/
def intsOf : List D → Option (List Int)
  | [] => some []
  | .int i :: ds => (intsOf ds).map (i :: ·)
  | _ => none
theorem intsOf_ok {K : PySem.W.Frag} {T : Ct} {F : Hp} : ∀ {vs : List V} {ds : List D} {ns : List Int}, IsL K T F vs ds → intsOf ds = some ns → vs = ns.map V.int
  | _, _, _, .nil, h => by cases h; rfl
  | _, _, ns, .cons i l, h => by
    rename_i v d vs ds
    cases d <;> try cases h
    rename_i k
    rw [intsOf, Option.map_eq_some_iff] at h
    obtain ⟨ms, h1, rfl⟩ := h
    rw [List.map_cons, i.intI, intsOf_ok l h1]
def minI (n : Int) (ns : List Int) : Int := ns.foldl (fun a y => if decide (y < a) = true then y else a) n
def maxI (n : Int) (ns : List Int) : Int := ns.foldl (fun a y => if decide (a < y) = true then y else a) n
theorem of_holds_int {h : Heap} {v : Value} {n : Int} (H : PySem.W.Holds h v n) : ∃ t, v = .int n t := by
  obtain ⟨as, r⟩ := H
  cases r with
  | int n t => exact ⟨t, rfl⟩
def rMM (K : PySem.W.Frag) (m : Int → List Int → Int) : List V → Hp → VK → Prop := fun vs H Q => ∃ (a : Addr) (n : Int) (ns : List Int), vs = [V.ref a] ∧ (SqL K H a ((n :: ns).map V.int) ∨ SqT K H a ((n :: ns).map V.int)) ∧ Q (.int (m n ns)) H
section
variable {X : Cx} {T : Ct} {W : WX}
theorem room0 {A : Around} {n : Nat} (r : Room n A) : A.units + 1 + 0 < cLine := by have := r.un; omega
theorem cr_min1 (hr : Room 0 X.A) : CallR X (.builtin "min") (rMM X.K minI) := by
  rintro pins s σ H vs us Q I r ⟨a, n, ns, rfl, hs, q⟩
  rw [Vals.ref1 r]
  rcases hs with hs | hs
  · obtain ⟨its, rv, hl, _⟩ := I.list hs
    refine PySem.W.min_list_datum (α := Int) hr.hd hl.isList (x := n) (xs := ns) (PySem.W.HoldAll.of_ints (by simpa using rv.ints)) (room0 hr) fun i v h' tk _ hv hk => ?_
    obtain ⟨t, rfl⟩ := of_holds_int hv
    exact ⟨.int _, H, I.kept hk, ⟨t, rfl⟩, q⟩
  · obtain ⟨its, rv, hl, _⟩ := I.tuple hs
    refine PySem.W.min_tuple_datum (α := Int) hr.hd (show s.heap.IsTuple a its.toArray from hl) (x := n) (xs := ns) (PySem.W.HoldAll.of_ints (by simpa using rv.ints)) (room0 hr) fun i v h' tk _ hv hk => ?_
    obtain ⟨t, rfl⟩ := of_holds_int hv
    exact ⟨.int _, H, I.kept hk, ⟨t, rfl⟩, q⟩
theorem cr_max1 (hr : Room 0 X.A) : CallR X (.builtin "max") (rMM X.K maxI) := by
  rintro pins s σ H vs us Q I r ⟨a, n, ns, rfl, hs, q⟩
  rw [Vals.ref1 r]
  rcases hs with hs | hs
  · obtain ⟨its, rv, hl, _⟩ := I.list hs
    refine PySem.W.max_list_datum (α := Int) hr.hd hl.isList (x := n) (xs := ns) (PySem.W.HoldAll.of_ints (by simpa using rv.ints)) (room0 hr) fun i v h' tk _ hv hk => ?_
    obtain ⟨t, rfl⟩ := of_holds_int hv
    exact ⟨.int _, H, I.kept hk, ⟨t, rfl⟩, q⟩
  · obtain ⟨its, rv, hl, _⟩ := I.tuple hs
    refine PySem.W.max_tuple_datum (α := Int) hr.hd (show s.heap.IsTuple a its.toArray from hl) (x := n) (xs := ns) (PySem.W.HoldAll.of_ints (by simpa using rv.ints)) (room0 hr) fun i v h' tk _ hv hk => ?_
    obtain ⟨t, rfl⟩ := of_holds_int hv
    exact ⟨.int _, H, I.kept hk, ⟨t, rfl⟩, q⟩
def kMM (m : Int → List Int → Int) : List D → Option D := fun ds => match ds with
  | [.lst xs] => (match intsOf xs with
    | some (n :: ns) => some (.int (m n ns))
    | _ => none)
  | [.tup xs] => (match intsOf xs with
    | some (n :: ns) => some (.int (m n ns))
    | _ => none)
  | _ => none
theorem cf_mm {id : String} {m : Int → List Int → Int} (h : CallR X (.builtin id) (rMM X.K m)) : CF X T W (.builtin id) (fun ds => opt (kMM m ds)) := cf_pure h fun F H vs ds d Q g l e q => by
  unfold kMM at e
  split at e
  · rename_i xs
    obtain ⟨v, rfl, i⟩ := l.one
    obtain ⟨a, us, rfl, s, l2⟩ := i.lstI
    split at e
    · rename_i n ns en
      cases e
      exact ⟨a, n, ns, rfl, .inl (intsOf_ok l2 en ▸ g.seq s), q _ (.int _)⟩
    · cases e
  · rename_i xs
    obtain ⟨v, rfl, i⟩ := l.one
    obtain ⟨a, us, rfl, s, l2⟩ := i.tupI
    split at e
    · rename_i n ns en
      cases e
      exact ⟨a, n, ns, rfl, .inr (intsOf_ok l2 en ▸ same_seq g s), q _ (.int _)⟩
    · cases e
  · cases e
/-! ### i ** j -/
abbrev iPow : D → D → En → Out D := fun x y => opt (ii (fun i j => if decide (0 ≤ j) && decide (j ≤ 1000) && decide (i.natAbs < 2 ^ 64) then some (.int (i ^ j.toNat)) else none) x y)
theorem of_pow : OF X T W (binaryOp .Pow) iPow := of_ii op_pow fun i j d e => by
  split at e
  · rename_i h
    cases e
    simp only [Bool.and_eq_true, decide_eq_true_eq] at h
    exact ⟨⟨h.1.1, by omega, h.2⟩, fun _ => .int _⟩
  · cases e
/-! ### calls with keywords -/
def kwM (n m : Nat) (mm : En → Out D) (ds es : List D) (ρ : En) : Out D := if decide (ds.length = n ∧ es.length = m) then onD mm (ds ++ es) ρ else .er
theorem kfk_fn {k n : Nat} {f : Addr} {fd : FuncData} {ps ks : List Str} {m : En → Out D} (F : FnM X T k f fd ps m) (hr : Room k X.A) (hb : KBn X.K fd ps n ks (fun us ws => us ++ ws) (fun vs zs => vs ++ zs)) (hn : n + ks.length = ps.length) (tk : Takes X W) {kl : Nat} (hk : ks.length = kl := by rfl) : KFK X T W (.ref f) ks (kwM n kl m) := by
  subst hk
  refine ⟨_, cal_fnK F hr hb (E := WE W) fun σ => passAt tk σ, fun B F0 H σ ρ Q vs zs ds es w l l' q => ?_⟩
  unfold kwM at q
  split at q
  · rename_i h
    obtain ⟨h1, h2⟩ := of_decide_eq_true h
    exact ⟨by rw [l.length]; exact h1, by rw [l'.length]; exact h2, onD_post w (l.append l') (by simp [h1, h2, hn]) q⟩
  · exact q.elim
theorem kw_nil : KwF X T W [] aN := ⟨_, pk_nil, fun B F H σ ρ Q w h => h F H [] Gw.refl w .nil⟩
theorem kw_cons {e : Expr} {nm : Option Str} {kpos : Pos} {kws : List Keyword} {f : En → Out D} {g : En → Out (List D)} (h1 : PF X T W e f) (h2 : KwF X T W kws g) : KwF X T W (⟨nm, e, kpos⟩ :: kws) (aC f g) := by
  obtain ⟨t, ht, hp⟩ := h1
  obtain ⟨u, hu, hq⟩ := h2
  refine ⟨_, pk_cons ht hu, fun B F H σ ρ Q w q => hp B F H σ ρ _ w (Post.step q fun d ρ1 F1 H1 v g1 w1 i1 q1 => ?_)⟩
  exact hq B F1 H1 σ ρ1 _ w1 (Post.step q1 fun ds ρ2 F2 H2 vs g2 w2 l2 q2 => q2 F2 H2 (v :: vs) Gw.refl w2 (.cons (i1.mono g2.s) l2))
def clK (m : List D → List D → En → Out D) (g gk : En → Out (List D)) : En → Out D := fun ρ => (g ρ).bind fun ds ρ => (gk ρ).bind fun es ρ => m ds es ρ
theorem pf_callK {m : List D → List D → En → Out D} {g gk : En → Out (List D)} {ks : List Str} {x : Str} {u : Value} {p pos : Pos} {e : Expr} {es : List Expr} {kws : List Keyword} (k : KFK X T W u ks m) (hg : Gl X x) (hm : X.mg x = some u) (hk : PySem.W.keepIn X.K u = true) (ha : AF X T W (e :: es) g) (hkw : KwF X T W kws gk)
    (hall : (backToKw pos (keywordEach kws X.env)).all (·.1.isSome) = true := by rfl) (hks : (backToKw pos (keywordEach kws X.env)).filterMap (·.1) = ks := by rfl) (hdb : (x == ("__debug__" : Str)) = false := by decide)
    (he : starEach (e :: es) X.env = (false, eval e X.env) :: starEach es X.env := by rfl) (hpl : ((backTo pos (starEach (e :: es) X.env)).any (·.1) || (backToKw pos (keywordEach kws X.env)).any (·.1.isNone)) = false := by rfl) : PF X T W (.Call (.Name x p) (e :: es) kws pos) (clK m g gk) := by
  obtain ⟨r, c, hp⟩ := k
  obtain ⟨t, ht, hq⟩ := ha
  obtain ⟨tk, htk, hqk⟩ := hkw
  refine ⟨_, pe_nmK c hg hm hk ht htk hall hks hdb he hpl, fun B F H σ ρ Q w q => hq B F H σ ρ _ w (Post.step q fun ds ρ1 F1 H1 vs g1 w1 l1 q1 => ?_)⟩
  exact hqk B F1 H1 σ ρ1 _ w1 (Post.step q1 fun es' ρ2 F2 H2 zs g2 w2 l2 q2 => hp B F2 H2 σ ρ2 Q vs zs ds es' w2 (l1.mono g2.s) l2 q2)
end
/-! ### binding -/
section
variable {K : PySem.W.Frag} {T : Ct} {x qual : Str} {params : Arguments} {body : List Stmt} {scope : Scope} {dvs : List V} {kws : List (Str × V)} {f : Addr} {fd : FuncData} {ps ks : List Str} {dd : List D}
/-- no defaults -/
theorem dfl0 (F : FunD K x qual params body scope [] kws f fd) (h : ∀ (kV doc pm : Value) (an : Option Addr) (cdv ct : Value) (us : List Value), us.length = ps.length → bindArgs (PySem.W.fnOf x qual params body scope .none kV doc pm an cdv ct) ⟨us, []⟩ = pure (ps.zip us)) : Dfl K T fd ps [] :=
  ⟨[], [], FunD.bindsN F h, .nil, fun _ => .nil⟩
/-- n written values, the defaults behind the first j fill up -/
theorem dfl1 (F : FunD K x qual params body scope dvs kws f fd) (n j : Nat) (hd : dvs ≠ []) (hn : n + (dvs.length - j) = ps.length) (hdd : ∀ F, IsL K T F (dvs.drop j) dd)
    (h : ∀ (T : Addr) (kV doc pm : Value) (an : Option Addr) (cdv ct : Value) (us its : List Value), us.length = n → its.length = dvs.length →
      ∃ k, bindArgs (PySem.W.fnOf x qual params body scope (.ref T) kV doc pm an cdv ct) ⟨us, []⟩ = seqItems? (.ref T) >>= k ∧ k (some its.toArray) = pure (ps.zip (us ++ its.drop j))) : Dfl K T fd ps dd := by
  obtain ⟨ds, v, b⟩ := FunD.binds1 F n j hd hn h
  exact ⟨ds, _, b, v, hdd⟩
/-- keyword-only parameters without defaults, all given -/
theorem kbn0 (F : FunD K x qual params body scope [] kws f fd) (n : Nat) (h : ∀ (kV doc pm : Value) (an : Option Addr) (cdv ct : Value) (us ws : List Value), us.length = n → ws.length = ks.length → bindArgs (PySem.W.fnOf x qual params body scope .none kV doc pm an cdv ct) ⟨us, ks.zip ws⟩ = pure (ps.zip (us ++ ws))) :
    KBn K fd ps n ks (fun us ws => us ++ ws) (fun vs zs => vs ++ zs) := by
  obtain ⟨oc, od, dV, kV, doc, pm, an, cdv, ct, osl, rfl, lk, hcd, hD, hK⟩ := F.ex
  rcases hD with ⟨_, rfl⟩ | ⟨e, _⟩
  · exact ⟨fun s us ws X l1 l2 => .of_eq (h kV doc pm an cdv ct us ws l1 l2), fun r1 r2 => r1.append r2⟩
  · exact absurd rfl e
end
theorem ct_len {Cs : List (Str × List Str)} {K : PySem.W.Frag} (h : (Cs.all fun C => decide (C.2.length < 1000)) = true) (c : Nat) : ((ctOf Cs K).fl c).length < 1000 := by
  cases e : Cs[c]? with
  | none => simp [ctOf, e]
  | some C =>
    have z := of_decide_eq_true (List.all_eq_true.mp h C (List.mem_of_getElem? e))
    simpa [ctOf, e] using z
theorem qLst_ref {T : Ct} {q : D → D → Option Bool} (d1 d2 : D) (b : Bool) (h : qLst q d1 d2 = some b) : (∀ K F v, Is K T F v d1 → ∃ a, v = .ref a) ∧ ∀ K F v, Is K T F v d2 → ∃ a, v = .ref a := by
  unfold qLst at h
  split at h
  · exact ⟨fun K F v i => by obtain ⟨a, _, e, _⟩ := i.lstI; exact ⟨a, e⟩, fun K F v i => by obtain ⟨a, _, e, _⟩ := i.lstI; exact ⟨a, e⟩⟩
  · cases h
theorem qTup_ref {T : Ct} {q : D → D → Option Bool} (d1 d2 : D) (b : Bool) (h : qTup q d1 d2 = some b) : (∀ K F v, Is K T F v d1 → ∃ a, v = .ref a) ∧ ∀ K F v, Is K T F v d2 → ∃ a, v = .ref a := by
  unfold qTup at h
  split at h
  · exact ⟨fun K F v i => by obtain ⟨a, _, e, _⟩ := i.tupI; exact ⟨a, e⟩, fun K F v i => by obtain ⟨a, _, e, _⟩ := i.tupI; exact ⟨a, e⟩⟩
  · cases h
/-- the rule of a def, with what its body may use -/
theorem fn_okE {P : Program} {w : World} {K : PySem.W.Frag} {mg : Str → Option Value} {base : Heap} {x qual : Str} {params : Arguments} {body : List Stmt} {scope : Scope} {dvs : List V} {kws : List (Str × V)} {f : Addr} {fd : FuncData} {T : Ct} {N ps : List Str} {k : Nat} {bs : List Nat} {fb : En → SOut}
    (Fd : FunD K x qual params body scope dvs kws f fd) (S : FnScope N ps scope) (hbs : (bs.all fun i => decide (i < ps.length)) = true)
    (hb : ∀ (cdv : Value) (A : Around) (outer : List Env) (s : Shared) (H : Hp) (E : XK) (X : Cx), X = cxOf (L2.CX P w) P w K mg base N qual scope f cdv A outer s H E → Room k X.A → Takes X (fun c dd _ H' => E c dd H') → PassesOwn (model X.prog X.w) X.A X.env X.xe →
      ZFs (cxOf (L2.CX P w) P w K mg base N qual scope f cdv A outer s H E) T (fun c dd _ H' => E c dd H') bs body fb) :
    FnOk P w K mg base (L2.CX P w) (k + 1) f fd ps (spM K T ps.length (mOf N.length bs fb)) :=
  fn_ok Fd S hbs fun cdv A outer s H E hr => hb cdv A outer s H E _ rfl hr (takes_of rfl rfl rfl rfl) (passes_of rfl)
/-- a def d of the program keeps the promise m at level k -/
def Got (P : Program) (w : World) (K : PySem.W.Frag) (mg : Str → Option Value) (base : Heap) (T : Ct) (d : Df) (k : Nat) (ps : List Str) (m : En → Out D) : Prop := ∃ fd, d.Ok K fd ∧ FnOk P w K mg base (L2.CX P w) k (adr K d.at_) fd ps (spM K T ps.length m)
end Ce
namespace Ce
open PySem PySem.Spec PyProof.Rows L2 Ce

/-! ### y = [e0, list(e1)]; y[1][ix] = rhs, where no other slot owns a thing -/
def frzO : Option O → Bool
  | some (.ol _) => false
  | some (.oi _ _) => false
  | _ => true
def sNest (i : Nat) (f0 : En → Out D) (fl : En → Out (List D)) (fr fi : En → Out D) : En → SOut := fun ρ => (f0 ρ).st fun d0 ρ1 => (fl ρ1).st fun xs ρ2 => if ρ2.all frzO && decide (i < ρ2.length) then
    (match fr (ρ2.set i (some (.im (.lst [d0, .lst xs])))) with
      | .ok (.int n) ρ4 => (match fi ρ4 with
        | .ok (.int k) _ => (match ixN xs.length k with
          | some j => .nx (ρ2.set i (some (.ol [d0, .lst (xs.set j (.int n))])))
          | none => .er)
        | _ => .er)
      | _ => .er) else .er
section
variable {K : PySem.W.Frag} {T : Ct} {B F H H' : Hp} {σ : L2.St} {ρ : En}
/-- where every slot is frozen, the state may be taken anew -/
theorem Wd.anew (w : Wd K T B F H σ ρ) (h : ρ.all frzO = true) {F' : Hp} (b : Same B H') (s : Same F F') (f : Same F' H') : Wd K T B F' H' σ ρ := by
  obtain ⟨φ, h1, h2, h3⟩ := w.o
  refine ⟨b, f, w.l, fun _ => [], fun i o e => ?_, fun i j a m => (by cases m), fun i a m => (by cases m)⟩
  obtain ⟨v, ev, q⟩ := h1 i o e
  have z := List.all_eq_true.mp h _ (List.mem_of_getElem? e)
  cases o with
  | im d => exact ⟨v, ev, .im (q.imI.mono s)⟩
  | ol ds => cases z
  | oi c ds => cases z
  | fn n => exact ⟨v, ev, by rw [q.fnI.1]; exact .fn⟩
  | exn c ds =>
    obtain ⟨vs, rfl, _, hx, hl, l⟩ := q.exnI
    exact ⟨_, ev, .exn (s _ _ hx) hl (l.mono s)⟩
/-- two new objects are frozen -/
theorem Wd.cold (w : Wd K T B F H σ ρ) {F' : Hp} (s : Same F F') (f : Same F' H) (h : ρ.all frzO = true) : Wd K T B F' H σ ρ := by
  obtain ⟨φ, h1, h2, h3⟩ := w.o
  refine ⟨w.b, f, w.l, fun _ => [], fun i o e => ?_, fun i j a m => (by cases m), fun i a m => (by cases m)⟩
  obtain ⟨v, ev, q⟩ := h1 i o e
  have z := List.all_eq_true.mp h _ (List.mem_of_getElem? e)
  cases o with
  | im d => exact ⟨v, ev, .im (q.imI.mono s)⟩
  | ol ds => cases z
  | oi c ds => cases z
  | fn n => exact ⟨v, ev, by rw [q.fnI.1]; exact .fn⟩
  | exn c ds =>
    obtain ⟨vs, rfl, _, hx, hl, l⟩ := q.exnI
    exact ⟨_, ev, .exn (s _ _ hx) hl (l.mono s)⟩
end
section
variable {X : Cx} {T : Ct} {W : WX} {bs : List Nat} {e0 e1 r ix : Expr} {f0 fr fi : En → Out D} {fl : En → Out (List D)} {i : Nat} {y : Str} {p p2 p3 pos pos2 : Pos} {rest : List Stmt} {gs : En → SOut} {el : Expr} {lp lp2 pos3 : Pos} {kc : Nat}
theorem st_sq {α : Type} {r : Out α} {k : α → En → SOut} {g : En → SOut} : (r.st k).sq g = r.st fun a ρ => (k a ρ).sq g := by cases r <;> rfl
theorem all_set {ρ : En} {i : Nat} {o : Option O} (h : ρ.all frzO = true) (ho : frzO o = true) : (ρ.set i o).all frzO = true := by
  rw [List.all_eq_true] at h ⊢
  intro x m
  rcases List.mem_or_eq_of_mem_set m with q | q
  · exact h x q
  · rw [q]; exact ho
theorem zs_nest (hN : X.N.Nodup) (hi : X.N[i]? = some y) (hx : Loc X.env.scope y) (h0 : PF X T W e0 f0) (hl : PN X T W el fl) (hr : PF X T W r fr) (hix : PF X T W ix fi) (hrest : ZFs X T W bs rest gs) (ho : ∀ {q : Pos}, PE X (.Name y q) (tVar i)) (hb : bs.contains i = false := by rfl)
    (hs0 : starEach [e0, el] X.env = (false, eval e0 X.env) :: starEach [el] X.env := by rfl) (hs1 : starEach [el] X.env = (false, eval el X.env) :: starEach [] X.env := by rfl)
    (hsw : swapsWith (.List [e0, el] lp) (some (.Name y p)) pos.line X.env = pure false := by rfl)
    (ha : ∀ v, assign (.Subscript (.Subscript (.Name y p2) (.Constant (.int 1) kc p3) pos2) ix lp2) X.env v = (do
      let ov ← holding [v] (eval (.Subscript (.Name y p2) (.Constant (.int 1) kc p3) pos2) X.env)
      let iv ← holding [v, ov] (eval ix X.env)
      standAt lp2
      holding [v, ov, iv] (setItem ov iv v)
      release [v, ov, iv] []) := by intro _; rfl) (hs : swapsWithSole [.Subscript (.Subscript (.Name y p2) (.Constant (.int 1) kc p3) pos2) ix lp2] r pos3.line X.env = pure false := by rfl)
    (hw : swappedStores [.Subscript (.Subscript (.Name y p2) (.Constant (.int 1) kc p3) pos2) ix lp2] r X.env = pure none := by rfl) (h1 : (assignEach [.Subscript (.Subscript (.Name y p2) (.Constant (.int 1) kc p3) pos2) ix lp2] X.env).map (·.2) = [assign (.Subscript (.Subscript (.Name y p2) (.Constant (.int 1) kc p3) pos2) ix lp2) X.env] := by rfl)
    (hpx : PlainIx (.Constant (.int 1) kc p3) := by intro _ _; rfl)
    (hf : X.fn y = true ∨ X.env.scope.names.lookup y = some .local := by first | exact .inl rfl | exact .inr rfl | assumption) :
    ZFs X T W bs (.Assign [.Name y p] (.List [e0, el] lp) pos :: .Assign [.Subscript (.Subscript (.Name y p2) (.Constant (.int 1) kc p3) pos2) ix lp2] r pos3 :: rest) (sCons (sNest i f0 fl fr fi) gs) := by
  obtain ⟨t0, ht0, hp0⟩ := h0
  obtain ⟨tl, htl, hpl⟩ := hl
  obtain ⟨tr, htr, hpr⟩ := hr
  obtain ⟨ti, hti, hpi⟩ := hix
  obtain ⟨tg, htg, hpg⟩ := hrest
  refine ⟨_, pss_cons (ps_set hN hi hx (pe_lst (pa_cons ht0 (pa_cons htl pa_nil hs1) hs0)) hsw hf) (pss_cons (ps_asg htr (pg_sub (pe_ix ix_list ho pe_int hpx) hti set_list ha) hs hw h1) htg), fun B F H σ ρ E w q => ?_⟩
  have q : PostS X.K T W bs B F σ ((f0 ρ).st fun d0 ρ1 => (fl ρ1).st fun xs ρ2 => (if ρ2.all frzO && decide (i < ρ2.length) then
    (match fr (ρ2.set i (some (.im (.lst [d0, .lst xs])))) with
      | .ok (.int n) ρ4 => (match fi ρ4 with
        | .ok (.int k) _ => (match ixN xs.length k with
          | some j => SOut.nx (ρ2.set i (some (.ol [d0, .lst (xs.set j (.int n))])))
          | none => .er)
        | _ => .er)
      | _ => .er) else .er).sq gs) E := by
    unfold sCons sNest at q
    rw [st_sq] at q
    simp only [st_sq] at q
    exact q
  refine hp0 B F H σ ρ _ w (PostS.ofP q fun d0 ρ1 F1 H1 v0 g1 w1 i1 q1 => ?_)
  refine hpl B F1 H1 σ ρ1 _ w1 (PostS.ofX q1 fun xs ρ2 q2 F2 H2 b vs g2 bb fb w2 l2 => ?_)
  refine ⟨by show 2 ≤ sizeLine; decide, fun a hfa => ?_⟩
  split at q2
  · rename_i hfz
    rw [Bool.and_eq_true] at hfz
    obtain ⟨hfz, hlen⟩ := hfz
    have hlen := of_decide_eq_true hlen
    have hbH : H2 b = some (.lst vs) := w2.b _ _ upd_same
    have w2' : Wd X.K T B F2 H2 σ ρ2 := w2.less (same_upd bb)
    obtain ⟨fa, ba⟩ := w2'.nofree hfa
    have nab : a ≠ b := fun z => by rw [z, hbH] at hfa; cases hfa
    -- everything frozen, both objects kept
    have w3 : Wd X.K T (upd (upd B b (.lst vs)) a (.lst [v0, .ref b])) (upd (upd F2 b (.lst vs)) a (.lst [v0, .ref b])) (upd H2 a (.lst [v0, .ref b])) σ ρ2 := by
      have z := w2.fresh (u := .lst [v0, .ref b]) hfa
      refine z.cold (((same_upd fb)).trans (same_upd ?_)) (same_upd2 fun c o e => ?_) hfz
      · rw [upd_ne nab]; exact fa
      · by_cases y : c = b
        · subst y; rw [upd_same] at e; cases e; exact hbH
        · rw [upd_ne y] at e; exact w2.f _ _ e
    have sF : Same F2 (upd (upd F2 b (.lst vs)) a (.lst [v0, .ref b])) := (same_upd fb).trans (same_upd (by rw [upd_ne nab]; exact fa))
    have iv : Is X.K T (upd (upd F2 b (.lst vs)) a (.lst [v0, .ref b])) (.ref a) (.lst [d0, .lst xs]) := .lst (SqL.of upd_same) (.cons (i1.mono (g2.s.trans sF)) (.cons (.lst (SqL.of (by rw [upd_ne (Ne.symm nab)]; exact upd_same)) (l2.mono sF)) .nil))
    have hil : i < σ.length := by rw [w2.l]; exact hlen
    have w4 := w3.putIm iv hil
    have hev : (σ.set i (some (.ref a)))[i]? = some (some (.ref a)) := List.getElem?_set_self hil
    split at q2
    · rename_i n ρ4 e4
      split at q2
      · rename_i k ρ5 e5
        split at q2
        · rename_i j ej
          refine hpr _ _ _ _ _ _ w4 ?_
          rw [e4]
          intro F5 H5 vr g5 w5 ir
          have hb5 : H5 b = some (.lst vs) := w5.b _ _ (by rw [upd_ne (Ne.symm nab)]; exact upd_same)
          have ha5 : H5 a = some (.lst [v0, .ref b]) := w5.b _ _ upd_same
          refine ⟨_, hev, a, [v0, .ref b], 1, .ref b, rfl, rfl, SqL.of ha5, rfl, ?_⟩
          refine hpi _ _ _ _ _ _ w5 ?_
          rw [e5]
          intro F6 H6 vk g6 w6 ik
          have hb6 : H6 b = some (.lst vs) := w6.b _ _ (by rw [upd_ne (Ne.symm nab)]; exact upd_same)
          have ha6 : H6 a = some (.lst [v0, .ref b]) := w6.b _ _ upd_same
          refine ⟨b, vs, k, j, rfl, ik.intI, hb6, by rw [l2.length]; exact ej, ?_⟩
          have e6 : vr = .int n := ir.intI
          subst e6
          -- the frozen part taken anew
          have s26 : Same F2 H6 := fun c o e => w6.f _ _ (g6.s _ _ (g5.s _ _ (sF _ _ e)))
          have gB : Gw B F2 (upd F2 b (.lst (vs.set j (.int n)))) := ⟨same_upd fb, fun c o e => by
            by_cases y : c = b
            · subst y; exact .inr bb
            · rw [upd_ne y] at e; exact .inl e⟩
          have wz : Wd X.K T B (upd F2 b (.lst (vs.set j (.int n)))) (upd H6 b (.lst (vs.set j (.int n)))) σ ρ2 := by
            refine w2'.anew hfz (fun c o e => ?_) gB.s (same_upd2 s26)
            have nc : c ≠ b := fun z => by rw [z, bb] at e; cases e
            have nca : c ≠ a := fun z => by rw [z, ba] at e; cases e
            rw [upd_ne nc]
            exact w6.b _ _ (by rw [upd_ne nca, upd_ne nc]; exact e)
          refine hpg B _ _ _ _ E (?_ : Wd X.K T B (upd F2 b (.lst (vs.set j (.int n)))) _ _ (ρ2.set i (some (.ol [d0, .lst (xs.set j (.int n))])))) (PostS.gw q2 (g2.trans gB) (Kp.set hb))
          refine wz.put (i := i) (fp := [a]) (.ol (vs := [v0, .ref b]) ?_ ?_) hil (fun c m => ?_) fun j' c m hj' o' w' fq e' ex' q' => ?_
          · rw [upd_ne nab]; exact ha6
          · exact .cons (i1.mono (g2.s.trans gB.s)) (.cons (.lst (SqL.of upd_same) ((l2.mono gB.s).set (.int n) j)) .nil)
          · simp at m
            subst m
            exact ⟨by rw [upd_ne nab]; exact fa, ba⟩
          · have z := List.all_eq_true.mp hfz _ (List.mem_of_getElem? e')
            cases o' with
            | im d => cases q'; simp
            | ol ds => cases z
            | oi c ds => cases z
            | fn n => rw [q'.fnI.2]; simp
            | exn c ds =>
              obtain ⟨_, _, e0, _⟩ := q'.exnI
              rw [e0]
              simp
        · exact q2.elim
      · exact q2.elim
    · exact q2.elim
  · exact q2.elim
end
end Ce
namespace Ce
open PySem PySem.Spec PyProof.Rows L2 Ce

/-! ### a comprehension over a list that a slot owns: the slot rests meanwhile -/
section
variable {K : PySem.W.Frag} {T : Ct} {B F H : Hp} {σ : L2.St} {ρ : En} {i : Nat} {ds : List D}
theorem Wd.hide (w : Wd K T B F H σ ρ) (e : ρ[i]? = some (some (.ol ds))) : ∃ a vs, σ[i]? = some (some (.ref a)) ∧ H a = some (.lst vs) ∧ IsL K T F vs ds ∧ F a = none ∧ B a = none ∧ Wd K T (upd B a (.lst vs)) F H σ (ρ.set i none) := by
  obtain ⟨φ, h1, h2, h3⟩ := id w.o
  obtain ⟨v, ev, q⟩ := h1 i _ e
  obtain ⟨a, vs, rfl, ef, ha, l⟩ := q.olI
  have am : a ∈ φ i := by rw [ef]; simp
  obtain ⟨_, fa, ba⟩ := h3 i a am
  have ne : ∀ j o, (ρ.set i none)[j]? = some (some o) → j ≠ i ∧ ρ[j]? = some (some o) := fun j o e => by
    by_cases z : i = j
    · subst z
      by_cases hl : i < ρ.length
      · rw [List.getElem?_set_self hl] at e; cases e
      · rw [List.getElem?_eq_none (by simpa using hl)] at e; cases e
    · rw [List.getElem?_set_ne z] at e
      exact ⟨Ne.symm z, e⟩
  refine ⟨a, vs, ev, ha, l, fa, ba, fun b o eb => ?_, w.f, by simpa using w.l, fset φ i [], fun j o eo => ?_, fun j k b => ?_, fun j b => ?_⟩
  · by_cases z : b = a
    · subst z; rw [upd_same] at eb; cases eb; exact ha
    · rw [upd_ne z] at eb; exact w.b _ _ eb
  · obtain ⟨z, eo⟩ := ne j o eo
    obtain ⟨x, ex, qx⟩ := h1 j o eo
    exact ⟨x, ex, by rw [fset_ne z]; exact qx⟩
  · by_cases z : j = i
    · subst z; rw [fset_same]; intro m; cases m
    · rw [fset_ne z]
      by_cases y : k = i
      · subst y; rw [fset_same]; intro _ m; cases m
      · rw [fset_ne y]; exact h2 j k b
  · by_cases z : j = i
    · subst z; rw [fset_same]; intro m; cases m
    · rw [fset_ne z]
      intro m
      obtain ⟨⟨o, eo⟩, y, x⟩ := h3 j b m
      have nb : b ≠ a := fun q => by subst q; exact z (h2 j i b m am)
      exact ⟨⟨o, by rw [List.getElem?_set_ne (Ne.symm z)]; exact eo⟩, y, by rw [upd_ne nb]; exact x⟩
theorem Wd.unhide {a : Addr} {vs : List V} (w : Wd K T (upd B a (.lst vs)) F H σ ρ) (ev : σ[i]? = some (some (.ref a))) (l : IsL K T F vs ds) (fa : F a = none) (ba : B a = none) : Wd K T B F H σ (ρ.set i (some (.ol ds))) := by
  have hi : i < σ.length := (List.getElem?_eq_some_iff.mp ev).1
  have z := w.give ba fa l hi
  have y : σ.set i (some (.ref a)) = σ := by
    apply List.ext_getElem?
    intro j
    by_cases h : i = j
    · subst h
      rw [List.getElem?_set_self hi, ev]
    · rw [List.getElem?_set_ne h]
  rw [y] at z
  exact z
end
theorem upd_comm {B : Hp} {a b : Addr} {u v : HO} (h : a ≠ b) : upd (upd B a u) b v = upd (upd B b v) a u := by
  funext c
  by_cases z : c = b
  · subst z
    rw [upd_same, upd_ne (Ne.symm h), upd_same]
  · rw [upd_ne z]
    by_cases y : c = a
    · subst y; rw [upd_same, upd_same]
    · rw [upd_ne y, upd_ne y, upd_ne z]
def nLcH (i : Nat) (g : D → En → Option En) (ft : En → Out Bool) (fe : En → Out D) (vs : List Nat) : En → Out (List D) := fun ρ => match ρ[i]? with
  | some (some (.ol ds)) => (match lcL g ft fe vs ds [] (wipeE (ρ.set i none) vs) with
    | .ok acc ρ2 => .ok acc ((restE (ρ.set i none) vs ρ2).set i (some (.ol ds)))
    | _ => .er)
  | _ => .er
section
variable {X : Cx} {T : Ct} {W : WX} {bs ts : List Nat} {elt tg iter c : Expr} {ifs : List Expr} {scope : Scope} {vz : List Nat} {own : List (Str × Nat)} {pos spos py : Pos} {g : D → En → Option En} {ft : En → Out Bool} {fe : En → Out D} {i n : Nat} {y : Str}
theorem lcH_read (tt : TT) {vs : List Nat} (htt : ∀ B F H σ ρ Q, Wd X.K T B F H σ ρ → Post X.K T noW B F σ RB (ft ρ) Q → tt σ H Q) (hts : (ts.all fun i => vs.contains i) = true) {B F H : Hp} {σ : L2.St} {ρ : En} {Q : VK} (w : Wd X.K T B F H σ ρ) (q : PostN X.K T W B F σ (nLcH i g ft fe vs ρ) Q) :
    tLc (iList X.K (tVar i)) (tGF X.K T ts g) tt (tPF X.K T noW fe) vs σ H Q := by
  unfold nLcH at q
  split at q
  · rename_i ds e
    obtain ⟨a, us, ev, ha, l, fa, ba, w1⟩ := w.hide e
    refine ⟨_, ev, a, rfl, ⟨us, SqL.of ha⟩, fun D hD => ?_⟩
    split at q
    · rename_i out ρ2 e2
      refine lc_ok (ts := ts) (T := T) (B := upd B a (.lst us)) (F := F) (ds := ds) (G := fun H => SqL X.K H a us) (Y := YAt us) tt htt hts w1 Gw.refl (l.length ▸ walk_list) (fun H2 _ sb => SqL.of (sb _ _ upd_same)) (came_at l) e2 ?_ D hD
      intro F' H' D' ws g' bD fD w' l'
      have nD : a ≠ D' := fun z => by rw [z, upd_same] at bD; cases bD
      rw [upd_ne (Ne.symm nD)] at bD
      have fa' : F' a = none := by
        cases z : F' a with
        | none => rfl
        | some u =>
          rcases g'.n a u z with y | y
          · rw [fa] at y; cases y
          · rw [upd_same] at y; cases y
      refine q F' H' D' ws (g'.less (same_upd ba)) bD fD ?_ l'
      rw [upd_comm nD] at w'
      exact w'.unhide ev (l.mono g'.s) fa' (by rw [upd_ne nD]; exact ba)
    · exact q.elim
  · exact q.elim
theorem pn_lcH0 (hc : X.calm = true) (hN : X.N.Nodup) (hi : PE X iter (tVar i)) (ok : BlkOk X.N X.env.scope scope own) (hg : ∀ (s : Shared) (H : Hp) (C : Addr) (cl : List (Str × Addr)) (fp : List Addr), GF (X.blk s H scope (compEnvC scope cl C X.env) fp) T ts tg g)
    (he : ∀ (s : Shared) (H : Hp) (C : Addr) (cl : List (Str × Addr)) (fp : List Addr), PF (X.blk s H scope (compEnvC scope cl C X.env) fp) T noW elt fe) (hvs : own.map (·.2) = vz := by rfl) (hts : (ts.all fun i => (own.map (·.2)).contains i) = true := by rfl) (hs : ∀ x, foldedSetIterable iter X.env x = pure x := by intro _; rfl) :
    PN X T W (.ListComp elt [⟨tg, iter, [], 0⟩] scope pos) (nLcH i g always fe vz) := by
  subst hvs
  exact ⟨_, pe_lc hc hN (pi_list hi) ok (g := tGF X.K T ts g) (tt := tYes) (te := tPF X.K T noW fe) (fun s H C cl fp => (hg s H C cl fp).pg) (fun s H C cl fp => pts_nil) (fun s H C cl fp => (he s H C cl fp).pe) hs, fun B F H σ ρ Q w q => lcH_read (ft := always) tYes (fun B F H σ ρ Q w q => q F H true Gw.refl w rfl) hts w q⟩
theorem z_setLcH0 (hc : X.calm = true) (hN : X.N.Nodup) (hy : X.N[n]? = some y) (hyl : X.env.scope.names.lookup y = some .local) (hsw : swapsWith (.ListComp elt [⟨tg, iter, [], 0⟩] scope pos) (some (.Name y py)) spos.line X.env = pure true)
    (hi : PE X iter (tVar i)) (ok : BlkOk X.N X.env.scope scope own) (hg : ∀ (s : Shared) (H : Hp) (C : Addr) (cl : List (Str × Addr)) (fp : List Addr), GF (X.blk s H scope (compEnvC scope cl C X.env) fp) T ts tg g)
    (he : ∀ (s : Shared) (H : Hp) (C : Addr) (cl : List (Str × Addr)) (fp : List Addr), PF (X.blk s H scope (compEnvC scope cl C X.env) fp) T noW elt fe) (hb : bs.contains n = false := by rfl) (hvs : own.map (·.2) = vz := by rfl) (hts : (ts.all fun i => (own.map (·.2)).contains i) = true := by rfl) (hs : ∀ x, foldedSetIterable iter X.env x = pure x := by intro _; rfl) :
    ZF X T W bs (.Assign [.Name y py] (.ListComp elt [⟨tg, iter, [], 0⟩] scope pos) spos) (sSetN n (nLcH i g always fe vz)) := by
  subst hvs
  exact ⟨_, ps_setLc hc hN hy hyl hsw (pi_list hi) ok (g := tGF X.K T ts g) (tt := tYes) (te := tPF X.K T noW fe) (fun s H C cl fp => (hg s H C cl fp).pg) (fun s H C cl fp => pts_nil) (fun s H C cl fp => (he s H C cl fp).pe) hs, fun B F H σ ρ E w q => lcH_read (ft := always) tYes (fun B F H σ ρ Q w q => q F H true Gw.refl w rfl) hts w (setN_post hb q)⟩
end
end Ce
namespace Ce
open PySem PySem.Spec PyProof.Rows L2 Ce

/-! ### the end of a law -/
theorem ints_is {K : PySem.W.Frag} {T : Ct} {F : Hp} : ∀ ns : List Int, IsL K T F (ns.map V.int) (ns.map D.int)
  | [] => .nil
  | n :: ns => .cons (.int n) (ints_is ns)
theorem spM_law {K : PySem.W.Frag} {T : Ct} {m : En → Out D} {a : Addr} {ns : List Int} {H : Hp} (hS : SqL K H a (ns.map V.int)) (h : ∃ ρ, m [some (.im (.lst (ns.map D.int)))] = .ok (.bl true) ρ) : spM K T 1 m [.ref a] H (fun v _ => v = .bl true) noE := by
  obtain ⟨ρ, e⟩ := h
  have w0 : Wd K T H H H [] [] := ⟨Same.refl H, Same.refl H, rfl, fun _ => [], fun i o z => by simp at z, fun i j a z => (by cases z), fun i a z => (by cases z)⟩
  refine ⟨rfl, H, H, [some (.im (.lst (ns.map D.int)))], wd_args (vs := [.ref a]) (ds := [.lst (ns.map D.int)]) w0 (.cons (.lst hS (ints_is ns)) .nil), ?_⟩
  rw [e]
  exact fun F' H' v g w' i => i.blI
/-- a def's record is one -/
theorem fd_one {K : PySem.W.Frag} {x x' q q' : Str} {p p' : Arguments} {b b' : List Stmt} {sc sc' : Scope} {dv dv' : List V} {kw kw' : List (Str × V)} {f : Addr} {fd fd' : FuncData} (h : FunD K x q p b sc dv kw f fd) (h' : FunD K x' q' p' b' sc' dv' kw' f fd') : fd = fd' := by
  obtain ⟨_, _, _, _, _, _, _, _, _, _, _, l, _⟩ := h.ex
  obtain ⟨_, _, _, _, _, _, _, _, _, _, _, l', _⟩ := h'.ex
  rw [l] at l'
  simp only [Option.some.injEq, Obj.mk.injEq, Data.func.injEq] at l'
  exact l'.2.2.1
theorem walk_end {l : PySem.W.OpenLaw} {n k : Nat} {q : Program} {loose : List Str} {XP : (Str → Option Value) → Heap → Prop} {YP : World → Heap → Prop} {d : DefRec} {x : Str} (hn : l.most = some n) (hn2 : n ≤ sizeLine) (hdf : d.params.defaults = []) (hr : Room k callerA)
    (F : ∀ (w : World) (mg : Str → Option Value) (fa : Addr) (h : Heap), YP w h → h.Ns mainGlobals mg → mg d.name = some (.ref fa) →
      ∃ (K : PySem.W.Frag) (fd : FuncData) (sp : Sp), K.In h ∧ (∀ (s : Shared) (u : Value), BindsTo s fd ⟨[u], []⟩ [(x, u)]) ∧
        (∀ (H : Hp) (a : Addr) (ns : List Int), ns.length ≤ n → (∀ z ∈ ns, Builtin.Int.intBits z ≤ 1048576) → SqL K H a (ns.map V.int) → sp [.ref a] H (fun v _ => v = .bl true) noE) ∧
        ∀ base : Heap, K.In base → base.Ns mainGlobals mg → FnOk l.prog w K mg base (L2.CX l.prog w) k fa fd [x] sp) :
    PySem.W.WalkO q loose XP YP l.row.toRowW d [] (fun f vs => PySem.call f vs) := by
  refine Att.attach_callB hn hdf fun w s₀ s₁ mg mb fa o pm cd doc a vs ns G Y ho hd hcd hmg hobj hints hlen hbits hg => ?_
  obtain ⟨K, fd, sp, KX, hb, hsp, hF⟩ := F w mg fa _ Y G.T.g hmg
  refine law_call KX G.T.g G.T.b G.T.builtins G.T.nolimit hg hobj hints (Nat.le_trans hlen hn2) hr hF hb (fun H hO hS => hsp H a ns hlen hbits hS) fun H e s' c => ?_
  obtain ⟨_, _, _, _, _, _, _, _, _, _, _, _, z⟩ := c
  exact z.elim
end Ce
namespace Ce
open PySem PySem.Spec PyProof.Rows L2 Ce

/-! ### exceptions with one field -/
/-- the promise of such a class's __init__ -/
def spXI (C : Addr) (f : Str) : Sp := fun vs H Q _ => ∃ (a : Addr) (v : V), vs = [.ref a, v] ∧ H a = some (exo a C none) ∧ ∀ dx, H dx = none → dx ≠ a → Q .non (upd (upd H dx (exd dx [(f, v)])) a (exo a C (some dx)))
theorem xi_ok {P : Program} {w : World} {K : PySem.W.Frag} {mg : Str → Option Value} {base : Heap} {x qual s y f : Str} {params : Arguments} {scope : Scope} {g C : Addr} {fd : FuncData} {N ps : List Str} {k : Nat} {p1 p2 p3 pos : Pos}
    (Fd : FunD K x qual params [.Assign [.Attribute (.Name s p1) f p2] (.Name y p3) pos] scope [] [] g fd) (S : FnScope N ps scope) (hl : ps.length = 2) (h0 : N[0]? = some s) (h1 : N[1]? = some y) (v0 : Vis scope s) (v1 : Vis scope y) (T : OexC K C) (hno : PySem.W.findIn K (.ref C) f = some none)
    (d0 : (s == ("__debug__" : Str)) = false := by decide) (d1 : (y == ("__debug__" : Str)) = false := by decide) (c0 : (s == ("__classdict__" : Str)) = false := by decide) (c1 : (y == ("__classdict__" : Str)) = false := by decide) :
    FnOk P w K mg base (L2.CX P w) (k + 1) g fd ps (spXI C f) := by
  refine FunD.ok Fd S (fun vs H Q E ⟨a, v, e, _⟩ => by rw [e, hl]; rfl) fun cdv A outer s0 H vs Q E hr ⟨a, v, e, ha, q⟩ => ?_
  subst e
  refine ⟨_, pss_one (ps_ost (pe_var h0 v0 d0 c0) (pe_var h1 v1 d1 c1)), ?_⟩
  exact ⟨v, rfl, .ref a, rfl, a, C, rfl, T, hno, .inl ⟨ha, fun dx hn ne => q dx hn ne⟩⟩
/-- the class c of exceptions, its __init__ at g -/
structure XcOk (X : Cx) (T : Ct) (c : Nat) (f : Str) (k : Nat) (g : Addr) (fd : FuncData) (ps : List Str) : Prop where
  o : OexC X.K (T.cl c)
  i : PySem.W.findIn X.K (.ref (T.cl c)) "__init__" = some (some (.ref g))
  t : PySem.W.typeIn X.K (.ref g) = some (.type "function")
  fl : T.fl c = [f]
  run : FnOk X.prog X.w X.K X.mg X.base (L2.CX X.prog X.w) k g fd ps (spXI (T.cl c) f)
  b : Binds X.K fd ps []
/-- raise c(e) -/
def sRaise (c : Nat) (f : En → Out D) : En → SOut := fun ρ => (f ρ).st fun d ρ => .ex ⟨c, [d]⟩ ρ
theorem z_raise {X : Cx} {T : Ct} {W : WX} {bs : List Nat} {e : Expr} {f : En → Out D} {pos p p2 : Pos} {x fn : Str} {c k : Nat} {g : Addr} {fd : FuncData} {ps : List Str} (h : XcOk X T c fn k g fd ps) (hc : X.calm = true) (hr : Room (k + 1) X.A) (tk : Takes X W) (hg : Gl X x) (hm : X.mg x = some (.ref (T.cl c))) (he : PF X T W e f)
    (hdb : (x == ("__debug__" : Str)) = false := by decide) (hs : starEach (e :: []) X.env = (false, eval e X.env) :: starEach [] X.env := by rfl) (hpl : (backTo p2 (starEach [] X.env)).any (·.1) = false := by rfl) :
    ZF X T W bs (.Raise (some (.Call (.Name x p) [e] [] p2)) none pos) (sRaise c f) := by
  obtain ⟨t, ht, hp⟩ := he
  refine ⟨_, ps_raise hc tk (pmk_oex h.o h.i h.t h.run hr h.b .nil passesNo hg hm (pa_cons ht pa_nil hs) hdb hs hpl), fun B F H σ ρ E w q => hp B F H σ ρ _ w (PostS.ofP q fun d ρ1 F1 H1 v g1 w1 i1 q1 => ?_)⟩
  refine ⟨by simp, fun a ha => ⟨a, v, rfl, upd_same, fun dx hdx ne => ⟨rfl, dx, [(fn, v)], upd_same, ?_, ?_, ?_⟩⟩⟩
  · rw [upd_ne ne, upd_same]
  · rwa [upd_ne ne] at hdx
  · have hd1 : H1 dx = none := by rwa [upd_ne ne] at hdx
    have eH : upd (del (upd (upd (upd H1 a (exo a (T.cl c) none)) dx (exd dx [(fn, v)])) a (exo a (T.cl c) (some dx))) a) dx (.xd [(fn, v)]) = upd H1 dx (.xd [(fn, v)]) := by
      funext b
      by_cases z : b = dx
      · subst z; rw [upd_same, upd_same]
      · rw [upd_ne z, upd_ne z]
        by_cases y : b = a
        · subst y; rw [del_same]; exact ha.symm
        · rw [del_ne y, upd_ne y, upd_ne z, upd_ne y]
    rw [eH]
    refine q1 F1 _ σ _ _ Gw.refl Kp.refl (w1.loose hd1) ⟨rfl, .inr ⟨dx, [v], rfl, ?_, ?_, .cons i1 .nil⟩⟩
    · rw [upd_same, h.fl]
      rfl
    · rw [h.fl]
      rfl
end Ce
namespace Ce
open PySem PySem.Spec PyProof.Rows L2 Ce

/-! ### try .. except x as n -/
section
variable {K : PySem.W.Frag} {T : Ct} {F F' : Hp} {a dd : Addr}
abbrev Ct.at (T : Ct) (a dd : Addr) : Ct := { T with xa := a, xd := dd }
mutual
theorem Is.cx : ∀ {v : V} {d : D}, Is K T F v d → Is K (T.at a dd) F v d
  | _, _, .non => .non
  | _, _, .bl b => .bl b
  | _, _, .int i => .int i
  | _, _, .str s => .str s
  | _, _, .raw v h => .raw v h
  | _, _, .lst h l => .lst h (IsL.cx l)
  | _, _, .tup h l => .tup h (IsL.cx l)
  | _, _, .ins h n l => .ins h n (IsL.cx l)
theorem IsL.cx : ∀ {vs : List V} {ds : List D}, IsL K T F vs ds → IsL K (T.at a dd) F vs ds
  | _, _, .nil => .nil
  | _, _, .cons h l => .cons (Is.cx h) (IsL.cx l)
end
def frzE (ρ : En) : En := ρ.map fun o => match o with
  | some (.im d) => some (.im d)
  | _ => none
def scal : D → Bool
  | .non => true
  | .bl _ => true
  | .int _ => true
  | .str _ => true
  | _ => false
theorem Is.scal {v : V} {d : D} (h : Is K (T.at a dd) F v d) (s : Ce.scal d = true) : Is K T F' v d := by
  cases d with
  | non => rw [h.nonI]; exact .non
  | bl b => rw [h.blI]; exact .bl b
  | int b => rw [h.intI]; exact .int b
  | str b => rw [h.strI]; exact .str b
  | _ => cases s
def sTry (i : Nat) (bz : List Nat) (tbl : Nat → Option Bool) (fb gs : En → SOut) : En → SOut := fun ρ => match fb ρ with
  | .ex x ρ1 => (match tbl x.c with
    | some true => if x.as.isEmpty || decide (ρ1.length ≤ i) then .er else (match gs ((frzE ρ1).set i (some (.exn x.c x.as))) with
      | .rt d _ => if scal d then .rt d (ρ1.set i none) else .er
      | .nx ρ3 => if decide (ρ3.length = ρ1.length) && ((List.range ρ1.length).all fun j => bz.contains j) then .nx (ρ1.set i none) else .er
      | _ => .er)
    | some false => .ex x ρ1
    | none => .er)
  | r => r
/-- the suite's first state -/
theorem wd_suite {B F H : Hp} {σ : L2.St} {ρ : En} {i c : Nat} {vs : List V} {ds : List D} (w : Wd K T B F H σ ρ) (hi : i < σ.length) (hd : H dd = some (.xd ((T.fl c).zip vs))) (hl : vs.length = (T.fl c).length) (l : IsL K T F vs ds) :
    Wd K (T.at a dd) H (upd F dd (.xd ((T.fl c).zip vs))) H (σ.set i (some (.ref a))) ((frzE ρ).set i (some (.exn c ds))) := by
  have hlen : (frzE ρ).length = ρ.length := by simp [frzE]
  have sF : Same F (upd F dd (.xd ((T.fl c).zip vs))) := fun b o e => by
    by_cases z : b = dd
    · subst z
      have := w.f _ _ e
      rw [hd] at this
      rw [upd_same]
      exact this
    · rw [upd_ne z]
      exact e
  refine ⟨Same.refl H, fun b o e => ?_, by simp [w.l, frzE], fun _ => [], fun j o e => ?_, fun j k b m => (by cases m), fun j b m => (by cases m)⟩
  · by_cases z : b = dd
    · subst z
      rw [upd_same] at e
      rw [hd]
      exact e
    · rw [upd_ne z] at e
      exact w.f _ _ e
  · by_cases z : i = j
    · subst z
      rw [List.getElem?_set_self (by rw [hlen, ← w.l]; exact hi)] at e
      cases e
      exact ⟨_, List.getElem?_set_self hi, .exn (T := T.at a dd) upd_same hl ((l.mono sF).cx)⟩
    · rw [List.getElem?_set_ne z] at e
      rw [List.getElem?_set_ne z]
      unfold frzE at e
      rw [List.getElem?_map, Option.map_eq_some_iff] at e
      obtain ⟨o', e1, e2⟩ := e
      split at e2
      · rename_i d
        cases e2
        obtain ⟨v, ev, iv⟩ := w.get e1
        exact ⟨v, ev, .im ((iv.mono sF).cx)⟩
      · cases e2
/-- behind the suite -/
theorem wd_after {B F H F3 H3 : Hp} {σ σ3 : L2.St} {ρ ρ3 : En} {i : Nat} {T' : Ct} (w : Wd K T B F H σ ρ) (w3 : Wd K T' H F3 H3 σ3 ρ3) : Wd K T B F H3 (σ.set i none) (ρ.set i none) :=
  (w.grow Gw.refl (w.b.trans w3.b) (w.f.trans w3.b) (fun b u e _ _ => w3.b _ _ e) fun b o e => .inl e).drop i none
end
section
variable {X : Cx} {T : Ct} {W : WX} {bs bz : List Nat} {x n : Str} {cX : Value} {i : Nat} {body suite : List Stmt} {b₀ : Stmt} {np pos pos' : Pos} {fb gs : En → SOut} {tbl : Nat → Option Bool}
theorem z_try (hs : X.stack = X.env :: X.outer) (hf : X.env.frame = some X.env.locals) (hN : X.N.Nodup) (hi : X.N[i]? = some n) (hln : X.env.kindOf n = some .local) (hc : Names X x cX) (tk : Takes X W) (hbs : bs.contains i = false)
    (hb : ∀ (W : WX) (pn : List (Addr × Obj)) (xe : Value → Shared → Prop), Takes (X.tr pn xe) W → PassesOwn (model X.prog X.w) X.A X.env xe → ZFs (X.tr pn xe) T W bs body fb)
    (hm : ∀ c b, tbl c = some b → PySem.W.exmOne X.K (.ref (T.cl c)) cX = some b)
    (hsu : ∀ (a dd : Addr) (oe : Obj) (pn : List (Addr × Obj)) (c : Nat), tbl c = some true → Zc (.ref (T.cl c)) (some dd) oe → (∃ vs, oe.data = .fields vs) → ZFs (X.suite a ((a, oe) :: pn)) (T.at a dd) noW bz (b₀ :: suite) gs) :
    ZF X T W bs (.Try body [.ExceptHandler (some (.Name x np)) (some n) (b₀ :: suite) pos'] [] [] pos) (sTry i bz tbl fb gs) := by
  refine ⟨_, ps_try_as hs hf hN hi hln hc tk (tb := fun W D σ H => (∃ B F ρ, Wd X.K T B F H σ ρ ∧ PostS X.K T W bs B F σ (fb ρ) D) )
    (ts := fun a cls d D σ H => ∃ dd c, cls = .ref (T.cl c) ∧ d = some dd ∧ tbl c = some true ∧ ∃ B F ρ, Wd X.K (T.at a dd) B F H σ ρ ∧ PostS X.K (T.at a dd) noW bz B F σ (gs ρ) D) (fun W pn xe tk hp => ?_) (fun a oe cls d pn hz hv => ?_), fun B F H σ ρ E w q => ?_⟩
  · obtain ⟨t, ht, hpp⟩ := hb W pn xe tk hp
    exact ⟨fun pins s σ H D I ⟨B, F, ρ, w, q⟩ => ht.run pins s σ H D I (hpp B F H σ ρ D w q)⟩
  · refine ⟨fun pins s σ H D I ⟨dd, c, ec, ed, et, B, F, ρ, w, q⟩ => ?_⟩
    subst ec ed
    obtain ⟨t, ht, hpp⟩ := hsu a dd oe pn c et hz hv
    exact ht.run pins s σ H D I (hpp B F H σ ρ D w q)
  · refine ⟨B, F, ρ, w, ?_⟩
    unfold sTry at q
    revert q
    cases fb ρ with
    | nx ρ1 => exact id
    | rt d ρ1 => exact id
    | bk ρ1 => exact id
    | ct ρ1 => exact id
    | er => exact id
    | ex y ρ1 =>
      intro q F1 H1 σ1 cls d g k w1 e
      dsimp only at q
      obtain ⟨rfl, e⟩ := e
      split at q
      · rename_i et
        split at q
        · exact q.elim
        · rename_i hne
          rcases e with ⟨_, e⟩ | ⟨dd, vs, rfl, hd, hl, l⟩
          · rw [e] at hne
            exact absurd rfl hne
          rw [Bool.or_eq_true, not_or] at hne
          have hi' : i < σ1.length := by
            have z := hne.2
            rw [decide_eq_true_eq] at z
            rw [w1.l]
            omega
          refine ⟨true, hm _ _ et, fun _ a ha => ⟨dd, y.c, rfl, rfl, et, ?_⟩, fun z => (by cases z)⟩
          have hil : ∀ z : i < σ1.length, Wd X.K (T.at a dd) H1 (upd F1 dd (.xd ((T.fl y.c).zip vs))) H1 (σ1.set i (some (.ref a))) ((frzE ρ1).set i (some (.exn y.c y.as))) := fun z => wd_suite w1 z hd hl l
          refine ⟨_, _, _, hil hi', ?_⟩
          · skip
            revert q
            cases gs ((frzE ρ1).set i (some (.exn y.c y.as))) with
            | rt v ρ3 =>
              intro q F3 H3 σ3 u g3 k3 w3 i3
              have q : PostS X.K T W bs B F σ (if scal v then .rt v (ρ1.set i none) else .er) E := q
              split at q
              · rename_i hsc
                exact q F1 H3 (σ1.set i none) u g (k.trans (Kp.set hbs)) (wd_after w1 w3) (i3.scal hsc)
              · exact q.elim
            | nx ρ3 =>
              intro q F3 H3 σ3 g3 k3 w3
              have q : PostS X.K T W bs B F σ (if decide (ρ3.length = ρ1.length) && ((List.range ρ1.length).all fun j => bz.contains j) then .nx (ρ1.set i none) else .er) E := q
              split at q
              · rename_i hz
                obtain ⟨z1, z2⟩ := Bool.and_eq_true_iff.mp hz
                have z1 := of_decide_eq_true z1
                have el : σ3.length = (σ1.set i (some (.ref a))).length := by rw [w3.l, z1, ← w1.l, List.length_set]
                have es : σ3 = σ1.set i (some (.ref a)) := by
                  refine List.ext_getElem? fun j => ?_
                  by_cases hj : j < ρ1.length
                  · exact k3 j (by simpa using List.all_eq_true.mp z2 j (List.mem_range.mpr hj))
                  · rw [List.getElem?_eq_none (by rw [el, List.length_set, w1.l]; omega), List.getElem?_eq_none (by rw [List.length_set, w1.l]; omega)]
                show E.nx (σ3.set i none) H3
                rw [es, List.set_set]
                exact q F1 H3 (σ1.set i none) g (k.trans (Kp.set hbs)) (wd_after w1 w3)
              · exact q.elim
            | bk ρ3 => exact fun q => q.elim
            | ct ρ3 => exact fun q => q.elim
            | ex z ρ3 => exact fun q => q.elim
            | er => exact fun q => q.elim
      · rename_i et
        exact ⟨false, hm _ _ et, fun z => (by cases z), fun _ => q F1 H1 σ1 _ d g k w1 ⟨rfl, e⟩⟩
      · exact q.elim
end
end Ce
namespace Ce
open PySem PySem.Spec PyProof.Rows L2 Ce

/-! ### e.f of the caught exception -/
section
variable {X : Cx} {T : Ct} {W : WX} {i c0 : Nat} {e : Expr} {pos : Pos} {f : Str} {tbl : Nat → Option Nat} {a dd : Addr} {oe : Obj} {pn : List (Addr × Obj)}
def exf (tbl : Nat → Option Nat) (i : Nat) : En → Out D := fun ρ => match ρ[i]? with
  | some (some (.exn c ds)) => (match tbl c with
    | some j => opt ds[j]? ρ
    | none => .er)
  | _ => .er
theorem zip_fst : ∀ {xs : List Str} {vs : List V}, vs.length = xs.length → (xs.zip vs).map (·.1) = xs
  | [], [], _ => rfl
  | x :: xs, v :: vs, h => by simp [zip_fst (xs := xs) (vs := vs) (by simpa using h)]
theorem zip_snd : ∀ {xs : List Str} {vs : List V}, vs.length = xs.length → (xs.zip vs).map (·.2) = vs
  | [], [], _ => rfl
  | x :: xs, v :: vs, h => by simp [zip_snd (xs := xs) (vs := vs) (by simpa using h)]
theorem pf_exf (hk : ∀ c j, tbl c = some j → (T.fl c)[j]? = some f ∧ (T.fl c).Nodup) (hX : XfC X.K (T.cl c0)) (hno : PySem.W.findIn X.K (.ref (T.cl c0)) f = some none) (hz : Zc (.ref (T.cl c0)) (some dd) oe) (hv : ∃ vs, oe.data = .fields vs)
    (he : PE (X.suite a ((a, oe) :: pn)) e (tVar i)) (hb : attributeBase e f X.env (eval e X.env) = eval e X.env := by rfl) : PF (X.suite a ((a, oe) :: pn)) (T.at a dd) W (.Attribute e f pos) (exf tbl i) := by
  refine ⟨_, pe_xf hX hno hz hv he hb, fun B F H σ ρ Q w q => ?_⟩
  unfold exf at q
  split at q
  · rename_i c ds e1
    split at q
    · rename_i j ej
      obtain ⟨d, ed, gd⟩ := opt_post q
      obtain ⟨v, fp, ev, o, _⟩ := w.own e1
      obtain ⟨vs, rfl, _, hx, hl, l⟩ := o.exnI
      obtain ⟨x, ex, ix⟩ := l.get ed
      obtain ⟨k1, k2⟩ := hk c j ej
      exact ⟨_, ev, rfl, rfl, dd, _, x, rfl, w.f _ _ hx, lookup_at (by rw [zip_fst hl]; exact k2) (by rw [zip_fst hl]; exact k1) (by rw [zip_snd hl]; exact ex), gd F H x Gw.refl w ix⟩
    · exact q.elim
  · exact q.elim
theorem InOk.cx {K : PySem.W.Frag} {c : Nat} (h : InOk K T c) : InOk K (T.at a dd) c := ⟨h.cls, h.isi⟩
end
end Ce
namespace Ce
open PySem PySem.Spec PyProof.Rows L2 Ce

/-! ### arguments: frozen values, defs by name -/
inductive OL (K : PySem.W.Frag) (T : Ct) (F : Hp) : List V → List O → Prop
  | nil : OL K T F [] []
  | im {v : V} {d : D} {vs : List V} {os : List O} (h : Is K T F v d) (l : OL K T F vs os) : OL K T F (v :: vs) (.im d :: os)
  | fn {n : Nat} {vs : List V} {os : List O} (l : OL K T F vs os) : OL K T F (.ref (T.cl n) :: vs) (.fn n :: os)
section
variable {K : PySem.W.Frag} {T : Ct} {F F' H : Hp}
theorem OL.mono (s : Same F F') : ∀ {vs : List V} {os : List O}, OL K T F vs os → OL K T F' vs os
  | _, _, .nil => .nil
  | _, _, .im h l => .im (h.mono s) (OL.mono s l)
  | _, _, .fn l => .fn (OL.mono s l)
theorem OL.length : ∀ {vs : List V} {os : List O}, OL K T F vs os → vs.length = os.length
  | _, _, .nil => rfl
  | _, _, .im _ l => congrArg (· + 1) (OL.length l)
  | _, _, .fn l => congrArg (· + 1) (OL.length l)
theorem OL.own : ∀ {vs : List V} {os : List O} {i : Nat} {o : O}, OL K T F vs os → os[i]? = some o → ∃ v, vs[i]? = some v ∧ Own K T F H v o []
  | _, _, _, _, .nil, e => by simp at e
  | _, _, 0, _, .im h l, e => by simp at e; subst e; exact ⟨_, rfl, .im h⟩
  | _, _, 0, _, .fn l, e => by simp at e; subst e; exact ⟨_, rfl, .fn⟩
  | _, _, i + 1, o, .im h l, e => by
    obtain ⟨v, h1, h2⟩ := OL.own (i := i) (o := o) l (by simpa using e)
    exact ⟨v, by simpa using h1, h2⟩
  | _, _, i + 1, o, .fn l, e => by
    obtain ⟨v, h1, h2⟩ := OL.own (i := i) (o := o) l (by simpa using e)
    exact ⟨v, by simpa using h1, h2⟩
end
structure AO (X : Cx) (T : Ct) (W : WX) (es : List Expr) (g : En → Out (List O)) : Prop where
  ex : ∃ t, PA X es t ∧ ∀ (B F H : Hp) (σ : L2.St) (ρ : En) (Q : List V → Hp → Prop), Wd X.K T B F H σ ρ → Post X.K T W B F σ (OL X.K T) (g ρ) Q → t σ H Q
def oN : En → Out (List O) := fun ρ => .ok [] ρ
def oC (f : En → Out D) (g : En → Out (List O)) : En → Out (List O) := fun ρ => (f ρ).bind fun d ρ => (g ρ).bind fun ds ρ => .ok (.im d :: ds) ρ
def oF (n : Nat) (g : En → Out (List O)) : En → Out (List O) := fun ρ => (g ρ).bind fun ds ρ => .ok (.fn n :: ds) ρ
section
variable {X : Cx} {T : Ct} {W : WX} {e : Expr} {es : List Expr} {f : En → Out D} {g : En → Out (List O)} {x : Str} {p : Pos} {n : Nat}
theorem ao_nil : AO X T W [] oN := ⟨_, pa_nil, fun B F H σ ρ Q w h => h F H [] Gw.refl w .nil⟩
theorem ao_cons (h1 : PF X T W e f) (h2 : AO X T W es g) (hs : starEach (e :: es) X.env = (false, eval e X.env) :: starEach es X.env := by rfl) : AO X T W (e :: es) (oC f g) := by
  obtain ⟨t, ht, hp⟩ := h1
  obtain ⟨u, hu, hq⟩ := h2
  refine ⟨_, pa_cons ht hu hs, fun B F H σ ρ Q w q => hp B F H σ ρ _ w (Post.step q fun d ρ1 F1 H1 v g1 w1 i1 q1 => ?_)⟩
  refine hq B F1 H1 σ ρ1 _ w1 (Post.step q1 fun ds ρ2 F2 H2 vs g2 w2 l2 q2 => ?_)
  exact q2 F2 H2 (v :: vs) Gw.refl w2 (.im (i1.mono g2.s) l2)
theorem ao_fn (hg : Gl X x) (hm : X.mg x = some (.ref (T.cl n))) (h2 : AO X T W es g) (hdb : (x == ("__debug__" : Str)) = false := by decide) (hs : starEach (.Name x p :: es) X.env = (false, eval (.Name x p) X.env) :: starEach es X.env := by rfl) : AO X T W (.Name x p :: es) (oF n g) := by
  obtain ⟨u, hu, hq⟩ := h2
  refine ⟨_, pa_cons (pe_glob (v := .ref (T.cl n)) hg hm rfl hdb) hu hs, fun B F H σ ρ Q w q => ?_⟩
  refine hq B F H σ ρ _ w (Post.step q fun ds ρ2 F2 H2 vs g2 w2 l2 q2 => ?_)
  exact q2 F2 H2 (_ :: vs) Gw.refl w2 (.fn l2)
end

/-! ### an instance is lent -/
section
variable {K : PySem.W.Frag} {T : Ct} {B F F' H H' : Hp} {σ : L2.St} {ρ r : En} {j c c' : Nat} {fs fs' : List D} {a : Addr} {vs : List V} {os : List O}
theorem slot_oi (w : Wd K T B F H σ ρ) (e : ρ[j]? = some (some (.oi c fs))) : ∃ a, σ[j]? = some (some (.ref a)) ∧ Own K T F H (.ref a) (.oi c fs) [a] ∧ F a = none ∧ B a = none := by
  obtain ⟨v, fp, ev, o, hfp⟩ := w.own e
  obtain ⟨a, dx, gs, rfl, rfl, ha, hn, l⟩ := id o.oiI
  exact ⟨a, ev, o, (hfp a (by simp)).1, (hfp a (by simp)).2⟩
theorem Wd.lend (w : Wd K T B F H σ ρ) (e : ρ[j]? = some (some (.oi c fs))) (ev : σ[j]? = some (some (.ref a))) (l : OL K T F vs os) : Wd K T (del H a) F H ((V.ref a :: vs).map some) (some (.oi c fs) :: os.map some) := by
  obtain ⟨a', ev', o, fa, ba⟩ := slot_oi w e
  rw [ev] at ev'
  cases ev'
  refine ⟨fun b u z => ?_, w.f, by simp [l.length], fset (fun _ => []) 0 [a], fun i o' e' => ?_, fun i k b m1 m2 => ?_, fun i b m1 => ?_⟩
  · by_cases y : b = a
    · subst y; rw [del_same] at z; cases z
    · rw [del_ne y] at z; exact z
  · cases i with
    | zero =>
      simp at e'
      subst e'
      exact ⟨.ref a, rfl, by rw [fset_same]; exact o⟩
    | succ i =>
      rw [fset_ne (Nat.succ_ne_zero i)]
      have e2 : (os.map some)[i]? = some (some o') := by simpa using e'
      rw [List.getElem?_map] at e2
      cases ed : os[i]? with
      | none => rw [ed] at e2; cases e2
      | some d =>
        rw [ed] at e2
        cases e2
        obtain ⟨v, ev2, iv⟩ := l.own (H := H) ed
        exact ⟨v, by simp [ev2], iv⟩
  · by_cases z : i = 0
    · by_cases y : k = 0
      · rw [z, y]
      · rw [fset_ne y] at m2; cases m2
    · rw [fset_ne z] at m1; cases m1
  · by_cases z : i = 0
    · subst z
      rw [fset_same] at m1
      simp at m1
      subst m1
      exact ⟨⟨.oi c fs, rfl⟩, fa, del_same⟩
    · rw [fset_ne z] at m1; cases m1
theorem Wd.home {σ' : L2.St} (w : Wd K T B F H σ ρ) (e : ρ[j]? = some (some (.oi c fs))) (ev : σ[j]? = some (some (.ref a))) (g : Gw (del H a) F F') (w' : Wd K T (del H a) F' H' σ' (some (.oi c' fs') :: r)) (e' : σ'[0]? = some (some (.ref a))) :
    Gw B F F' ∧ Wd K T B F' H' σ (ρ.set j (some (.oi c' fs'))) := by
  obtain ⟨a1, ev1, o1, fa, ba⟩ := slot_oi w e
  rw [ev] at ev1
  cases ev1
  obtain ⟨a2, ev2, o2, fa2, ba2⟩ := slot_oi w' (j := 0) (c := c') (fs := fs') rfl
  rw [e'] at ev2
  cases ev2
  have kp : ∀ b u, b ≠ a → H b = some u → H' b = some u := fun b u ne z => w'.b _ _ (by rw [del_ne ne]; exact z)
  have nb : ∀ {b : Addr}, del H a b = none → B b = none := fun {b} z => by
    by_cases y : b = a
    · subst y; exact ba
    · rw [del_ne y] at z; exact w.b.free z
  have g' : Gw B F F' := ⟨g.s, fun b o z => (g.n b o z).imp id nb⟩
  refine ⟨g', ?_⟩
  obtain ⟨φ, h1, h2, h3⟩ := w.o
  have hj : j < ρ.length := (List.getElem?_eq_some_iff.mp e).1
  have ea : φ j = [a] := by
    obtain ⟨x, ex, q1⟩ := h1 j _ e
    rw [ev] at ex
    cases ex
    exact o1.fp_eq q1
  have aj : a ∈ φ j := by rw [ea]; simp
  refine ⟨fun b u z => kp b u (ne_of_none z ba) (w.b _ _ z), w'.f, by simpa using w.l, φ, fun i o e2 => ?_, h2, fun i b m => ?_⟩
  · by_cases z : i = j
    · subst z
      rw [List.getElem?_set_self hj] at e2
      cases e2
      exact ⟨_, ev, by rw [ea]; exact o2⟩
    · rw [List.getElem?_set_ne (Ne.symm z)] at e2
      obtain ⟨x, ex, q1⟩ := h1 i o e2
      refine ⟨x, ex, q1.mono g.s fun b m u hu => kp b u ?_ hu⟩
      rintro rfl
      exact z (h2 i j b m aj)
  · obtain ⟨⟨o, e2⟩, hf, hb⟩ := h3 i b m
    by_cases z : i = j
    · subst z
      rw [ea] at m
      simp at m
      subst m
      exact ⟨⟨_, List.getElem?_set_self hj⟩, fa2, hb⟩
    · refine ⟨⟨o, by rw [List.getElem?_set_ne (Ne.symm z)]; exact e2⟩, ?_, hb⟩
      obtain ⟨x, ex, q1⟩ := h1 i o e2
      obtain ⟨u, hu⟩ := q1.there b m
      have ne : b ≠ a := by
        rintro rfl
        exact z (h2 i j b m aj)
      cases y : F' b with
      | none => rfl
      | some v =>
        rcases g.n b v y with y | y
        · rw [hf] at y; cases y
        · rw [del_ne ne, hu] at y; cases y
end
/-- a def on a lent instance -/
def onO (j : Nat) (m : En → Out D) (os : List O) (ρ : En) : Out D := match ρ[j]? with
  | some (some (.oi c fs)) => (match m (some (.oi c fs) :: os.map some) with
    | .ok d (some (.oi c' fs') :: _) => .ok d (ρ.set j (some (.oi c' fs')))
    | .ex x (some (.oi c' fs') :: _) => .ex x (ρ.set j (some (.oi c' fs')))
    | _ => .er)
  | _ => .er
theorem onO_post {K : PySem.W.Frag} {T : Ct} {W : WX} {B F H : Hp} {σ : L2.St} {ρ : En} {m : En → Out D} {vs : List V} {os : List O} {Q : VK} {n j : Nat} {a : Addr} (w : Wd K T B F H σ ρ) (ev : σ[j]? = some (some (.ref a))) (l : OL K T F vs os) (hn : os.length + 1 = n) (q : Post K T W B F σ (Is K T) (onO j m os ρ) Q) :
    spM K T n m (.ref a :: vs) H Q (fun c dd H' => W c dd σ H') := by
  unfold onO at q
  split at q
  · rename_i c fs e
    refine ⟨by rw [List.length_cons, l.length, hn], del H a, F, _, w.lend e ev l, ?_⟩
    revert q
    cases m (some (.oi c fs) :: os.map some) with
    | er => exact id
    | ok d ρ1 =>
      cases ρ1 with
      | nil => exact fun q => q.elim
      | cons o1 r =>
        cases o1 with
        | none => exact fun q => q.elim
        | some o1 =>
          cases o1 with
          | oi c' fs' =>
            intro q F' H' v g w' i
            obtain ⟨g2, w2⟩ := w.home e ev g w' rfl
            exact q F' H' v g2 w2 i
          | _ => exact fun q => q.elim
    | ex x ρ1 =>
      cases ρ1 with
      | nil => exact fun q => q.elim
      | cons o1 r =>
        cases o1 with
        | none => exact fun q => q.elim
        | some o1 =>
          cases o1 with
          | oi c' fs' =>
            intro q F' H' cc dd g w' i
            obtain ⟨g2, w2⟩ := w.home e ev g w' rfl
            exact q F' H' cc dd g2 w2 i
          | _ => exact fun q => q.elim
  · exact q.elim
/-- x(y, ..), y the slot j's instance -/
def clO (j n : Nat) (m : En → Out D) (g : En → Out (List O)) : En → Out D := fun ρ => match ρ[j]? with
  | some (some (.oi _ _)) => (g ρ).bind fun os ρ => if decide (os.length + 1 = n) then onO j m os ρ else .er
  | _ => .er
/-- y.a(..), y the slot j's instance of the class c -/
def mtO (c j n : Nat) (m : En → Out D) (g : En → Out (List O)) : En → Out D := fun ρ => match ρ[j]? with
  | some (some (.oi c' _)) => if decide (c' = c) then (g ρ).bind fun os ρ => if decide (os.length + 1 = n) then onO j m os ρ else .er else .er
  | _ => .er
/-- f(y, ..), f a slot's def -/
def lcO (s k j n : Nat) (m : En → Out D) (g : En → Out (List O)) : En → Out D := fun ρ => match ρ[s]? with
  | some (some (.fn k')) => if decide (k' = k) then clO j n m g ρ else .er
  | _ => .er
section
variable {X : Cx} {T : Ct} {W : WX} {k n j c : Nat} {f : Addr} {fd : FuncData} {ps : List Str} {m : En → Out D} {x a : Str} {p pos apos : Pos} {e : Expr} {es : List Expr} {g : En → Out (List O)} {pl : Sem Bool}
theorem cal_FnM (F : FnM X T k f fd ps m) (hr : Room k X.A) (b : Dfl X.K T fd ps []) (tk : Takes X W) : CalR X (.ref f) (fun σ vs H Q => spM X.K T ps.length m vs H Q (fun c dd H' => W c dd σ H')) := by
  have z := cal_fn F hr b.none .nil (E := WE W) fun σ => passAt tk σ
  intro pins s σ H us vs Q I r q
  exact z pins s σ H us vs Q I r (by show spM X.K T ps.length m (vs ++ []) H Q _; rw [List.append_nil]; exact q)
theorem pf_callO (F : FnM X T k f fd ps m) (hr : Room k X.A) (b : Dfl X.K T fd ps []) (tk : Takes X W) (hg : Gl X x) (hm : X.mg x = some (.ref f)) (hk : PySem.W.keepIn X.K (.ref f) = true) (he : PE X e (tVar j)) (ha : AO X T W es g) (hn : ps.length = n := by rfl) (hdb : (x == ("__debug__" : Str)) = false := by decide)
    (hs : starEach (e :: es) X.env = (false, eval e X.env) :: starEach es X.env := by rfl) (hpl : (backTo pos (starEach es X.env)).any (·.1) = false := by rfl) : PF X T W (.Call (.Name x p) (e :: es) [] pos) (clO j n m g) := by
  subst hn
  obtain ⟨t, ht, hp⟩ := ha
  refine ⟨_, pe_nm (cal_FnM F hr b tk) hg hm hk (pa_cons he ht hs) hdb hs hpl, fun B F0 H σ ρ Q w q => ?_⟩
  unfold clO at q
  split at q
  · rename_i c fs e1
    obtain ⟨a, ev, o, _, _⟩ := slot_oi w e1
    refine ⟨_, ev, hp B F0 H σ ρ _ w (Post.step q fun os ρ1 F1 H1 vs g1 w1 l1 q1 => ?_)⟩
    split at q1
    · rename_i hz
      exact onO_post w1 ev l1 (of_decide_eq_true hz) q1
    · exact q1.elim
  · exact q.elim
theorem pf_mtO (h : MtOk X.K T c a f) (F : FnM X T k f fd ps m) (hr : Room k X.A) (b : Dfl X.K T fd ps []) (tk : Takes X W) {o : Expr} (ho : PE X o (tVar j)) (ha : AO X T W (e :: es) g) (hn : ps.length = n := by rfl)
    (hst : starEach (e :: es) X.env = (false, eval e X.env) :: starEach es X.env := by rfl) (hpl : (backTo pos (starEach es X.env)).any (·.1) = false := by rfl)
    (ht : eval (.Call (.Attribute o a apos) (e :: es) [] pos) X.env = (do
      let ov ← eval o X.env
      standAt apos.atName
      let (f, first) ← holding [ov] (getMethod ov a pl)
      callWith pos f first (backTo pos (starEach (e :: es) X.env)) (backToKw pos (keywordEach [] X.env))) := by rfl) : PF X T W (.Call (.Attribute o a apos) (e :: es) [] pos) (mtO c j n m g) := by
  subst hn
  obtain ⟨t, hta, hp⟩ := ha
  refine ⟨_, pe_mt ho h.cls h.mth (cal_FnM F hr b tk) hta hst hpl ht, fun B F0 H σ ρ Q w q => ?_⟩
  unfold mtO at q
  split at q
  · rename_i c' fs e1
    split at q
    · rename_i hc
      obtain rfl := of_decide_eq_true hc
      obtain ⟨y, ev, o, _, _⟩ := slot_oi w e1
      obtain ⟨y', dx, gs, ey, _, hy, hg, l⟩ := id o.oiI
      cases ey
      refine ⟨_, ev, y, dx, gs, rfl, hy, lookup_no ?_, hp B F0 H σ ρ _ w (Post.step q fun os ρ1 F1 H1 vs g1 w1 l1 q1 => ?_)⟩
      · rw [hg]
        have z := h.no
        rw [Bool.eq_false_iff] at z ⊢
        intro hh
        refine z ?_
        simp only [List.contains_iff_mem] at hh ⊢
        exact List.mem_of_mem_take hh
      · split at q1
        · rename_i hz
          exact onO_post w1 ev l1 (of_decide_eq_true hz) q1
        · exact q1.elim
    · exact q.elim
  · exact q.elim
theorem pf_mtO0 (h : MtOk X.K T c a f) (F : FnM X T k f fd ps m) (hr : Room k X.A) (b : Dfl X.K T fd ps []) (tk : Takes X W) {o : Expr} (ho : PE X o (tVar j)) (hn : ps.length = n := by rfl)
    (ht : eval (.Call (.Attribute o a apos) [] [] pos) X.env = (do
      let ov ← eval o X.env
      standAt apos.atName
      let (f, first) ← holding [ov] (getMethod ov a pl)
      callWith pos f first (backTo pos (starEach [] X.env)) (backToKw pos (keywordEach [] X.env))) := by rfl) : PF X T W (.Call (.Attribute o a apos) [] [] pos) (mtO c j n m oN) := by
  subst hn
  refine ⟨_, pe_mt0 ho h.cls h.mth (cal_FnM F hr b tk) ht, fun B F0 H σ ρ Q w q => ?_⟩
  unfold mtO at q
  split at q
  · rename_i c' fs e1
    split at q
    · rename_i hc
      obtain rfl := of_decide_eq_true hc
      obtain ⟨y, ev, o, _, _⟩ := slot_oi w e1
      obtain ⟨y', dx, gs, ey, _, hy, hg, l⟩ := id o.oiI
      cases ey
      refine ⟨_, ev, y, dx, gs, rfl, hy, lookup_no ?_, ?_⟩
      · rw [hg]
        have z := h.no
        rw [Bool.eq_false_iff] at z ⊢
        intro hh
        refine z ?_
        simp only [List.contains_iff_mem] at hh ⊢
        exact List.mem_of_mem_take hh
      · have q1 : Post X.K T W B F0 σ (Is X.K T) (if decide (([] : List O).length + 1 = ps.length) then onO j m [] ρ else .er) Q := q
        split at q1
        · rename_i hz
          exact onO_post (os := []) w ev .nil (of_decide_eq_true hz) q1
        · exact q1.elim
    · exact q.elim
  · exact q.elim
/-- f(y, ..), f a local name -/
theorem pe_nmL {r : R3} {s : Nat} {t : TA} (cl : CalR X (.ref f) r) (hv : PE X (.Name x p) (tVar s)) (hk : PySem.W.keepIn X.K (.ref f) = true) (ha : PA X (e :: es) t)
    (he : starEach (e :: es) X.env = (false, eval e X.env) :: starEach es X.env := by rfl) (hpl : (backTo pos (starEach es X.env)).any (·.1) = false := by rfl) : PE X (.Call (.Name x p) (e :: es) [] pos) (fun σ H Q => σ[s]? = some (some (.ref f)) ∧ t σ H fun vs H1 => r σ vs H1 Q) := by
  refine ⟨fun pins s0 σ H Q I ⟨hs, ht⟩ => ?_⟩
  refine wpAny_Call_Name_kw (thn (hv.run pins s0 σ H (fun v H1 => v = .ref f ∧ H1 = H) I ⟨.ref f, hs, rfl, rfl⟩) fun u s1 ⟨v, H1, I1, r1, q1⟩ => ?_)
  obtain ⟨rfl, rfl⟩ := q1
  cases r1
  exact PySem.W.callWith_K (h₀ := X.base) I.ok.mod.kin hk (thn (ha.run pos pins s1 σ _ _ I1 ht) fun us s2 ⟨vs, H2, I2, r, q⟩ => ⟨I2.kIn, cl pins s2 σ H2 us vs Q I2 r q⟩) he hpl
theorem pf_lcO {s kn : Nat} (F : FnM X T k (T.cl kn) fd ps m) (hr : Room k X.A) (b : Dfl X.K T fd ps []) (tk : Takes X W) (hv : PE X (.Name x p) (tVar s)) (hk : PySem.W.keepIn X.K (.ref (T.cl kn)) = true) (he : PE X e (tVar j)) (ha : AO X T W es g) (hn : ps.length = n := by rfl)
    (hs : starEach (e :: es) X.env = (false, eval e X.env) :: starEach es X.env := by rfl) (hpl : (backTo pos (starEach es X.env)).any (·.1) = false := by rfl) : PF X T W (.Call (.Name x p) (e :: es) [] pos) (lcO s kn j n m g) := by
  subst hn
  obtain ⟨t, ht, hp⟩ := ha
  refine ⟨_, pe_nmL (cal_FnM F hr b tk) hv hk (pa_cons he ht hs) hs hpl, fun B F0 H σ ρ Q w q => ?_⟩
  unfold lcO at q
  split at q
  · rename_i k' e0
    split at q
    · rename_i hk'
      obtain rfl := of_decide_eq_true hk'
      obtain ⟨v, fp, ev0, o0, _⟩ := w.own e0
      obtain ⟨rfl, _⟩ := o0.fnI
      unfold clO at q
      split at q
      · rename_i c fs e1
        obtain ⟨a, ev, o, _, _⟩ := slot_oi w e1
        refine ⟨ev0, _, ev, hp B F0 H σ ρ _ w (Post.step q fun os ρ1 F1 H1 vs g1 w1 l1 q1 => ?_)⟩
        split at q1
        · rename_i hz
          exact onO_post w1 ev l1 (of_decide_eq_true hz) q1
        · exact q1.elim
      · exact q.elim
    · exact q.elim
  · exact q.elim
end
end Ce
namespace Ce
open PySem PySem.Spec PyProof.Rows L2 Ce

/-! ### math.lcm -/
def rLcm : List V → Hp → VK → Prop := fun vs H Q => ∃ a b : Int, vs = [.int a, .int b] ∧ a.natAbs < 2 ^ 64 ∧ b.natAbs < 2 ^ 64 ∧ Q (.int ((Nat.lcm a.natAbs b.natAbs : Nat) : Int)) H
section
variable {X : Cx} {T : Ct} {W : WX}
theorem cr_lcm : CallR X (.builtin "math.lcm") rLcm := by
  intro pins s σ H vs us Q I r h
  obtain ⟨a, b, rfl, ha, hb, q⟩ := h
  obtain ⟨t, u, rfl⟩ := Vals.int2 r
  exact PySem.W.mc_lcm ha hb fun _ => ⟨.int _, H, I.tok _, ⟨_, rfl⟩, q⟩
def kLcm : List D → Option D
  | [.int a, .int b] => if decide (a.natAbs < 2 ^ 64) && decide (b.natAbs < 2 ^ 64) then some (.int ((Nat.lcm a.natAbs b.natAbs : Nat) : Int)) else none
  | _ => none
theorem cf_lcm : CF X T W (.builtin "math.lcm") (fun ds => opt (kLcm ds)) := cf_pure cr_lcm fun F H vs ds d Q g l e q => by
  unfold kLcm at e
  split at e
  · split at e
    · rename_i hz
      cases e
      obtain ⟨v, u, rfl, i, j⟩ := l.two
      rw [i.intI, j.intI]
      obtain ⟨h1, h2⟩ := Bool.and_eq_true_iff.mp hz
      exact ⟨_, _, rfl, of_decide_eq_true h1, of_decide_eq_true h2, q _ (.int _)⟩
    · cases e
  · cases e
/-! ### int(text) -/
def kIntS : List D → Option D
  | [.str a] => if decide (a.length ≤ 640) then (PySem.intText? a).map D.int else none
  | _ => none
theorem cf_intS : CF X T W (.type "int") (fun ds => opt (kIntS ds)) := cf_pure call_int_str fun F H vs ds d Q g l e q => by
  unfold kIntS at e
  split at e
  · split at e
    · rename_i hz
      rw [Option.map_eq_some_iff] at e
      obtain ⟨n, e1, rfl⟩ := e
      obtain ⟨v, rfl, i⟩ := l.one
      rw [i.strI]
      exact ⟨_, n, rfl, e1, of_decide_eq_true hz, q _ (.int _)⟩
    · cases e
  · cases e
/-! ### methods of texts -/
def strsOf : List D → Option (List Str)
  | [] => some []
  | .str s :: ds => (strsOf ds).map (s :: ·)
  | _ => none
theorem strsOf_ok {K : PySem.W.Frag} {F : Hp} : ∀ {vs : List V} {ds : List D} {ys : List Str}, IsL K T F vs ds → strsOf ds = some ys → vs = ys.map V.str
  | _, _, _, .nil, h => by cases h; rfl
  | _, _, ns, .cons i l, h => by
    rename_i v d vs ds
    cases d <;> try cases h
    rename_i k
    rw [strsOf, Option.map_eq_some_iff] at h
    obtain ⟨ms, h1, rfl⟩ := h
    rw [List.map_cons, i.strI, strsOf_ok l h1]
def kJoin (a : Str) : D → Option D
  | .lst xs => (strsOf xs).bind fun ys => if decide ((ys.map (·.length)).sum + ys.length * a.length ≤ 16777216) then some (.str (Txt.join a ys)) else none
  | _ => none
def kStarts (a : Str) : D → Option D
  | .str b => some (.bl (Txt.startswith a b))
  | _ => none
/-- s.m(e) -/
def sm1 (k : Str → D → Option D) (fo fe : En → Out D) : En → Out D := fun ρ => (fo ρ).bind fun x ρ => match x with
  | .str a => (fe ρ).bind fun y ρ => opt (k a y) ρ
  | _ => .er
variable {o e : Expr} {fo fe : En → Out D} {apos pos : Pos} {id : String} {name : Str} {k : Str → D → Option D}
theorem pf_sm1 {r : V → List V → Hp → VK → Prop} (slot : Slot "str" name id) (ty : typeOf (.builtin id) = pure (.type "method_descriptor")) (rule : MtR X id r) (hk : ∀ F H a y d v Q, Same F H → Is X.K T F v y → k a y = some d → (∀ u, Is X.K T F u d → Q u H) → r (.str a) [v] H Q)
    (ho : PF X T W o fo) (he : PF X T W e fe) (hs : starEach [e] X.env = [(false, eval e X.env)] := by rfl) (hbase : attributeBase o name X.env (eval o X.env) = eval o X.env := by rfl) (hline : (apos.endLine == pos.line) = true := by rfl) :
    PF X T W (.Call (.Attribute o name apos) [e] [] pos) (sm1 k fo fe) := by
  obtain ⟨t, ht, hp⟩ := ho
  obtain ⟨u, hu, hq⟩ := he
  refine ⟨_, pe_m1 slot ty rule ht hu hs hbase hline, fun B F H σ ρ Q w q => hp B F H σ ρ _ w (Post.step q fun x ρ1 F1 H1 v1 g1 w1 i1 q1 => ?_)⟩
  cases x with
  | str a =>
    rw [i1.strI]
    refine ⟨⟨a, rfl⟩, hq B F1 H1 σ ρ1 _ w1 (Post.step q1 fun y ρ2 F2 H2 v2 g2 w2 i2 q2 => ?_)⟩
    obtain ⟨d, ed, gd⟩ := opt_post q2
    exact hk F2 H2 a y d v2 Q w2.f i2 ed fun u iu => gd F2 H2 u Gw.refl w2 iu
  | _ => exact q1.elim
theorem pf_join (ho : PF X T W o fo) (he : PF X T W e fe) (hs : starEach [e] X.env = [(false, eval e X.env)] := by rfl) (hbase : attributeBase o "join" X.env (eval o X.env) = eval o X.env := by rfl) (hline : (apos.endLine == pos.line) = true := by rfl) :
    PF X T W (.Call (.Attribute o "join" apos) [e] [] pos) (sm1 kJoin fo fe) :=
  pf_sm1 PySem.F.slot_str_join PySem.F.type_str_join mt_join (fun F H a y d v Q g i e q => by
    unfold kJoin at e
    split at e
    · rename_i xs
      rw [Option.bind_eq_some_iff] at e
      obtain ⟨ys, e1, e2⟩ := e
      split at e2
      · rename_i hz
        cases e2
        obtain ⟨b, vs, rfl, s, l⟩ := i.lstI
        exact ⟨_, b, ys, rfl, rfl, .inl (by rw [← strsOf_ok l e1]; exact g.seq s), of_decide_eq_true hz, q _ (.str _)⟩
      · cases e2
    · cases e) ho he hs hbase hline
theorem pf_starts (ho : PF X T W o fo) (he : PF X T W e fe) (hs : starEach [e] X.env = [(false, eval e X.env)] := by rfl) (hbase : attributeBase o "startswith" X.env (eval o X.env) = eval o X.env := by rfl) (hline : (apos.endLine == pos.line) = true := by rfl) :
    PF X T W (.Call (.Attribute o "startswith" apos) [e] [] pos) (sm1 kStarts fo fe) :=
  pf_sm1 PySem.F.slot_str_startswith PySem.F.type_str_startswith mt_startswith (fun F H a y d v Q g i e q => by
    unfold kStarts at e
    split at e
    · cases e
      rw [i.strI]
      exact ⟨_, _, rfl, rfl, q _ (.bl _)⟩
    · cases e) ho he hs hbase hline
/-! ### a text in a list or a tuple of texts -/
def kInT (neg : Bool) : D → D → Option D
  | .str a, .lst xs => (strsOf xs).map fun ys => .bl (if neg then !(ys.any fun y => a == y) else ys.any fun y => a == y)
  | .str a, .tup xs => (strsOf xs).map fun ys => .bl (if neg then !(ys.any fun y => a == y) else ys.any fun y => a == y)
  | _, _ => none
theorem inV_strs {a : Str} {ys : List Str} : inV (.str a) (ys.map V.str) = ys.any fun y => a == y := by
  unfold inV
  rw [List.any_map]
  congr 1
  funext y
  show (y == a) = (a == y)
  rw [Bool.eq_iff_iff]
  simp only [beq_iff_eq]
  exact eq_comm
theorem flat_strs (ys : List Str) : (ys.map V.str).all flatV = true := by
  rw [List.all_map]
  exact List.all_eq_true.mpr fun _ _ => rfl
theorem of_inT0 {neg : Bool} {op : CmpOp} (h : OpR X (compareOp op) (rIn X.K neg)) : OF X T W (compareOp op) (fun x y => opt (kInT neg x y)) := by
  refine ⟨_, h, fun B F H σ ρ Q v1 d1 v2 d2 w i1 i2 q => ?_⟩
  obtain ⟨d, e, gd⟩ := opt_post q
  unfold kInT at e
  split at e
  · rename_i a xs
    rw [Option.map_eq_some_iff] at e
    obtain ⟨ys, e1, rfl⟩ := e
    obtain ⟨b, vs, rfl, s, l⟩ := i2.lstI
    rw [i1.strI]
    refine ⟨b, vs, rfl, .inl (w.f.seq s), rfl, by rw [strsOf_ok l e1]; exact flat_strs ys, ?_⟩
    rw [strsOf_ok l e1, inV_strs]
    exact gd F H _ Gw.refl w (.bl _)
  · rename_i a xs
    rw [Option.map_eq_some_iff] at e
    obtain ⟨ys, e1, rfl⟩ := e
    obtain ⟨b, vs, rfl, s, l⟩ := i2.tupI
    rw [i1.strI]
    refine ⟨b, vs, rfl, .inr (same_seq w.f s), rfl, by rw [strsOf_ok l e1]; exact flat_strs ys, ?_⟩
    rw [strsOf_ok l e1, inV_strs]
    exact gd F H _ Gw.refl w (.bl _)
  · cases e
abbrev tInT : D → D → En → Out D := fun x y => opt (kInT false x y)
abbrev tNotInT : D → D → En → Out D := fun x y => opt (kInT true x y)
theorem of_inT : OF X T W (compareOp .In) tInT := of_inT0 op_in_seq
theorem of_notInT : OF X T W (compareOp .NotIn) tNotInT := of_inT0 op_notIn_seq
end
end Ce
namespace Ce
open PySem PySem.Spec PyProof.Rows L2 Ce

/-! ### name = C(..), the slot's own instance -/
section
variable {K : PySem.W.Frag} {T : Ct} {W : WX} {bs : List Nat} {B F F' F2 H H' : Hp} {σ : L2.St} {ρ : En} {m : En → Out D}
theorem Wd.giveO {a : Addr} {o : O} {u : HO} {i : Nat} (hb : B a = none) (hf : F a = none) (w : Wd K T (upd B a u) F H σ ρ) (q0 : Own K T F H (.ref a) o [a]) (hi : i < σ.length) :
    Wd K T B F H (σ.set i (some (.ref a))) (ρ.set i (some o)) := by
  obtain ⟨φ, h1, h2, h3⟩ := id w.o
  refine (w.less (same_upd hb)).put q0 hi (fun b m => ?_) fun j b m _ o' x fq e ex q mq => ?_
  · simp at m; subst m; exact ⟨hf, hb⟩
  · simp at m
    subst m
    obtain ⟨x', ex', q'⟩ := h1 j o' e
    rw [ex] at ex'
    cases ex'
    have ef : fq = φ j := by
      cases q with
      | im _ => cases mq
      | ol h l => simp at mq; subst mq; exact (Own.fp_eq (.ol h l) q').symm
      | oi h n l => simp at mq; subst mq; exact (Own.fp_eq (.oi h n l) q').symm
      | fn => cases mq
      | exn h n l => cases mq
    rw [ef] at mq
    have z := (h3 j b mq).2.2
    rw [upd_same] at z
    cases z
def sMkI (i c n : Nat) (m : En → Out D) (g : En → Out (List D)) : En → SOut := fun ρ => (g ρ).st fun ds ρ => if decide (ds.length + 1 = n) then (match m (some (.oi c []) :: ds.map fun d => some (.im d)) with
    | .ok .non (some (.oi c' fs) :: _) => if decide (i < ρ.length) then .nx (ρ.set i (some (.oi c' fs))) else .er
    | .ex x _ => .ex x ρ
    | _ => .er) else .er
theorem mkI_post {vs : List V} {ds : List D} {E : Ends} {n c i : Nat} {x dx : Addr} (hbs : bs.contains i = false) (w : Wd K T B F H σ ρ) (l : IsL K T F vs ds) (hn : ds.length + 1 = n) (hx : H x = none) (hdx : H dx = none) (ne : dx ≠ x)
    (q : PostS K T W bs B F σ (match m (some (.oi c []) :: ds.map fun d => some (.im d)) with
    | .ok .non (some (.oi c' fs) :: _) => if decide (i < ρ.length) then .nx (ρ.set i (some (.oi c' fs))) else .er
    | .ex x _ => .ex x ρ
    | _ => .er) E) :
    spM K T n m (.ref x :: vs) (upd (upd H dx (.own x)) x (.ins (T.cl c) dx [])) (fun v H2 => v = .non ∧ E.nx (σ.set i (some (.ref x))) H2) (fun c dd H' => W c dd σ H') := by
  generalize hH1 : upd H dx (.own x) = H1
  have hx1 : H1 x = none := by rw [← hH1, upd_ne (Ne.symm ne)]; exact hx
  have s01 : Same H H1 := by rw [← hH1]; exact same_upd hdx
  have w1 : Wd K T B F H1 σ ρ := by rw [← hH1]; exact w.loose hdx
  obtain ⟨fx, bx⟩ := w1.nofree hx1
  have s12 : Same H1 (upd H1 x (.ins (T.cl c) dx [])) := same_upd hx1
  have wa : Wd K T H1 F (upd H1 x (.ins (T.cl c) dx [])) ((V.ref x :: vs).map some) (some (.oi c []) :: ds.map fun d => some (.im d)) := by
    have wl := wd_args w1 l
    refine ⟨s12, w1.f.trans s12, by simp [l.length], fset (fun _ => []) 0 [x], fun i o e => ?_, fun i j a m1 m2 => ?_, fun i a m1 => ?_⟩
    · cases i with
      | zero =>
        simp at e
        subst e
        exact ⟨.ref x, rfl, by rw [fset_same]; exact .oi (fs := []) upd_same (by simp) .nil⟩
      | succ i =>
        rw [fset_ne (Nat.succ_ne_zero i)]
        have e2 : (ds.map fun d => some (O.im d))[i]? = some (some o) := by simpa using e
        rw [List.getElem?_map] at e2
        cases ed : ds[i]? with
        | none => rw [ed] at e2; cases e2
        | some d =>
          rw [ed] at e2
          cases e2
          obtain ⟨v, ev, iv⟩ := l.get ed
          exact ⟨v, by simp [ev], .im iv⟩
    · by_cases z : i = 0
      · by_cases y : j = 0
        · rw [z, y]
        · rw [fset_ne y] at m2; cases m2
      · rw [fset_ne z] at m1; cases m1
    · by_cases z : i = 0
      · subst z
        rw [fset_same] at m1
        simp at m1
        subst m1
        exact ⟨⟨.oi c [], rfl⟩, fx, hx1⟩
      · rw [fset_ne z] at m1; cases m1
  refine ⟨by simp [l.length]; exact hn, H1, F, _, wa, ?_⟩
  revert q
  cases m (some (.oi c []) :: ds.map fun d => some (.im d)) with
  | ok d ρa =>
    cases d with
    | non =>
      cases ρa with
      | nil => exact fun q => q.elim
      | cons o r =>
        cases o with
        | none => exact fun q => q.elim
        | some o =>
          cases o with
          | oi c' fs =>
            intro q F' H' v g w' i'
            have q : PostS K T W bs B F σ (if decide (i < ρ.length) then .nx (ρ.set i (some (.oi c' fs))) else .er) E := q
            split at q
            · rename_i hz
              refine ⟨i'.nonI, ?_⟩
              obtain ⟨g2, w2⟩ := w1.back g w'
              obtain ⟨v', fp, ev, ow, hfp⟩ := w'.own (i := 0) (o := .oi c' fs) rfl
              simp at ev
              subst ev
              obtain ⟨a, dy, gs, ea, efp, ha, hn', lf⟩ := id ow.oiI
              cases ea
              have hxf := hfp x (by rw [efp]; simp)
              rw [efp] at ow
              have bx' : B x = none := bx
              have w3 := Wd.giveO bx' hxf.1 (w1.backTo g w' hx1 bx' ha) ow (i := i) (by rw [w.l]; exact of_decide_eq_true hz)
              exact q F' H' _ g2 (Kp.set hbs) w3
            · exact q.elim
          | _ => exact fun q => q.elim
    | _ => exact fun q => q.elim
  | ex y ρa =>
    intro q F' H' c' dd g w' e
    obtain ⟨g2, w2⟩ := w1.back g w'
    exact q F' H' σ c' dd g2 Kp.refl w2 e
  | er => exact id
end
section
variable {X : Cx} {T : Ct} {W : WX} {bs : List Nat} {k n c i : Nat} {f : Addr} {fd : FuncData} {ps : List Str} {m : En → Out D} {x y : Str} {p p2 pos cpos : Pos} {e : Expr} {es : List Expr} {g : En → Out (List D)}
theorem z_mkI (M : Mk X.K (T.cl c) f) (F : FnM X T k f fd ps m) (hr : Room (k + 1) X.A) (b : Dfl X.K T fd ps []) (tk : Takes X W) (hg : Gl X x) (hm : X.mg x = some (.ref (T.cl c))) (hk : PySem.W.keepIn X.K (.ref (T.cl c)) = true) (ha : AF X T W (e :: es) g)
    (hN : X.N.Nodup) (hi : X.N[i]? = some y) (hy : Loc X.env.scope y) (hbs : bs.contains i = false := by rfl) (hn : ps.length = n := by rfl) (hdb : (x == ("__debug__" : Str)) = false := by decide)
    (hs : starEach (e :: es) X.env = (false, eval e X.env) :: starEach es X.env := by rfl) (hpl : (backTo cpos (starEach es X.env)).any (·.1) = false := by rfl)
    (hsw : swapsWith (.Call (.Name x p) (e :: es) [] cpos) (some (.Name y p2)) pos.line X.env = pure false := by rfl)
    (hf : X.fn y = true ∨ X.env.scope.names.lookup y = some .local := by first | exact .inl rfl | exact .inr rfl | assumption) :
    ZF X T W bs (.Assign [.Name y p2] (.Call (.Name x p) (e :: es) [] cpos) pos) (sMkI i c n m g) := by
  subst hn
  obtain ⟨t, ht, hp⟩ := ha
  refine ⟨_, ps_set hN hi hy (pe_nm (cal_make M F hr b.none .nil (E := WE W) fun σ => passAt tk σ) hg hm hk ht hdb hs hpl) hsw hf, fun B F0 H σ ρ E w q => ?_⟩
  refine hp B F0 H σ ρ _ w (PostS.ofP q fun ds ρ1 F1 H1 vs g1 w1 l1 q1 => ?_)
  intro xa dx hx hdx ne
  dsimp only
  rw [List.append_nil]
  split at q1
  · rename_i hz
    exact mkI_post hbs w1 l1 (of_decide_eq_true hz) hx hdx ne q1
  · exact q1.elim
end
end Ce
namespace Ce
open PySem PySem.Spec PyProof.Rows L2 Ce

/-! ### facts of exception classes -/
def fOex (C : Str) (K : PySem.W.Frag) : Bool := (match K.lookup (He.ga K C) with
    | some ⟨.type "type", _, .cls cd, sl⟩ => (match cd.mro, sl.toList with
      | .ref C' :: bm, [_, _, _, _, some (.builtin n), _] => C' == He.ga K C && n == "ValueError.__new__" && !cd.hasDel && cd.hasDict && PySem.HandSPX.refsVE bm
      | _, _ => false)
    | _ => false) && (He.eqO (PySem.W.findIn K (.ref (He.ga K C)) "__setattr__") (some (some (.builtin "object.__setattr__"))) && (decide (PySem.W.subIn K (.ref (He.ga K C)) (.type "BaseException") = some true) &&
    (decide (PySem.W.typeIn K (.ref (He.ga K C)) = some (.type "type")) && PySem.W.keepIn K (.ref (He.ga K C)))))
def fXin (C f : Str) (K : PySem.W.Frag) : Bool := He.eqO (PySem.W.findIn K (.ref (He.ga K C)) "__init__") (some (some (.ref (He.ma K (He.ga K C) "__init__")))) && (decide (PySem.W.typeIn K (.ref (He.ma K (He.ga K C) "__init__")) = some (.type "function")) && He.eqO (PySem.W.findIn K (.ref (He.ga K C)) f) (some none))
def fXf (C : Str) (K : PySem.W.Frag) : Bool := xfB K (He.ga K C)
def fExm (C D : Str) (b : Bool) (K : PySem.W.Frag) : Bool := decide (PySem.W.exmOne K (.ref (He.ga K C)) (.ref (He.ga K D)) = some b)
section
variable {K : PySem.W.Frag} {C D f : Str} {Cs : List (Str × List Str)} {c : Nat}
theorem oex_ok (b : fOex C K = true) : OexC K (He.ga K C) := by
  obtain ⟨b0, b⟩ := Bool.and_eq_true_iff.mp b
  obtain ⟨b1, b⟩ := Bool.and_eq_true_iff.mp b
  obtain ⟨b2, b⟩ := Bool.and_eq_true_iff.mp b
  obtain ⟨b3, b4⟩ := Bool.and_eq_true_iff.mp b
  refine ⟨?_, He.eqO_ok b1, of_decide_eq_true b2, of_decide_eq_true b3, b4⟩
  split at b0
  · rename_i dd cd sl ho
    split at b0
    · rename_i C' bm k0 k1 k2 k3 n k5 hm hs
      simp only [Bool.and_eq_true, beq_iff_eq, Bool.not_eq_true'] at b0
      obtain ⟨⟨⟨⟨e1, rfl⟩, hdel⟩, hdd⟩, ht⟩ := b0
      subst e1
      obtain ⟨nm, bs, mro, ns, qn, hd, sn, sub, ab, col, del⟩ := cd
      dsimp only at hm hdel hdd
      subst hm hdel hdd
      have hsl : sl = #[k0, k1, k2, k3, some (.builtin "ValueError.__new__"), k5] := by
        obtain ⟨l⟩ := sl
        simp only at hs
        rw [hs]
      subst hsl
      exact ⟨nm, qn, ns, bs, bm, sn, sub, ab, col, dd, k0, k1, k2, k3, k5, ho, ht⟩
    · cases b0
  · cases b0
theorem xc_of {X : Cx} {k : Nat} {fd : FuncData} {ps : List Str} (hc : Cs[c]? = some (C, [f])) (b0 : fOex C X.K = true) (b1 : fXin C f X.K = true) (G : FnOk X.prog X.w X.K X.mg X.base (L2.CX X.prog X.w) k (He.ma X.K (He.ga X.K C) "__init__") fd ps (spXI (He.ga X.K C) f)) (b : Binds X.K fd ps []) :
    XcOk X (ctOf Cs X.K) c f k (He.ma X.K (He.ga X.K C) "__init__") fd ps := by
  have e := ct_cl (K := X.K) (Cs := Cs) (c := c) (C := C) (by rw [hc]; rfl)
  obtain ⟨k0, k1⟩ := Bool.and_eq_true_iff.mp b1
  obtain ⟨k1, k2⟩ := Bool.and_eq_true_iff.mp k1
  exact ⟨by rw [e]; exact oex_ok b0, by rw [e]; exact He.eqO_ok k0, of_decide_eq_true k1, by simp [ctOf, hc], by rw [e]; exact G, b⟩
theorem xno_of (b1 : fXin C f K = true) : PySem.W.findIn K (.ref (He.ga K C)) f = some none := by
  obtain ⟨k0, k1⟩ := Bool.and_eq_true_iff.mp b1
  obtain ⟨k1, k2⟩ := Bool.and_eq_true_iff.mp k1
  exact He.eqO_ok k2
/-- which classes an except clause takes -/
theorem exm_of {tbl : Nat → Option Bool} (h : ∀ c b, tbl c = some b → ∃ C, Cs[c]?.map (·.1) = some C ∧ fExm C D b K = true) : ∀ c b, tbl c = some b → PySem.W.exmOne K (.ref ((ctOf Cs K).cl c)) (.ref (He.ga K D)) = some b := fun c b e => by
  obtain ⟨C, h1, h2⟩ := h c b e
  rw [ct_cl h1]
  exact of_decide_eq_true h2
theorem fn_cl (hc : Cs[c]?.map (·.1) = some C) : (ctOf Cs K).cl c = He.ga K C := ct_cl hc
end
theorem isT_ofN {K : PySem.W.Frag} {Cs : List (Str × List Str)} {n : String} {m : Nat} {cs : List Nat} (hcs : (cs.all fun c => decide (c < m) && decide (c < Cs.length)) = true) (b : fIsT n ((Cs.take m).map (·.1)) K = true) : ∀ c' ∈ cs, PySem.W.kitOne K (.ref ((ctOf Cs K).cl c')) (.type n) = some false := fun c' hm => by
  obtain ⟨q1, q⟩ := Bool.and_eq_true_iff.mp (List.all_eq_true.mp hcs c' hm)
  have q1 := of_decide_eq_true q1
  have q := of_decide_eq_true q
  have z : Cs[c']? = some Cs[c'] := List.getElem?_eq_getElem q
  rw [ct_cl (K := K) (C := Cs[c'].1) (by rw [z]; rfl)]
  refine of_decide_eq_true (List.all_eq_true.mp b Cs[c'].1 (List.mem_map.mpr ⟨Cs[c'], ?_, rfl⟩))
  exact List.mem_take_iff_getElem.mpr ⟨c', by omega, rfl⟩
theorem isC_ofN {K : PySem.W.Frag} {Cs : List (Str × List Str)} {c m : Nat} {cs : List Nat} {C : Str} (hc : Cs[c]?.map (·.1) = some C) (hcs : isChk Cs c C cs = true) (hm : (cs.all fun c => decide (c < m)) = true) (b : fIs C ((Cs.take m).map (·.1)) K = true) : IsC K (ctOf Cs K) c cs := by
  obtain ⟨b0, b1⟩ := Bool.and_eq_true_iff.mp b
  have e := ct_cl (K := K) hc
  refine ⟨fun c' h => ?_, fun n h => ?_⟩
  · have q := List.all_eq_true.mp hcs c' h
    have lt := of_decide_eq_true (List.all_eq_true.mp hm c' h)
    cases z : Cs[c']? with
    | none => rw [z] at q; cases q
    | some D =>
      rw [z] at q
      have q := eq_of_beq q
      rw [e, ct_cl (K := K) (C := D.1) (by rw [z]; rfl), ← q]
      refine of_decide_eq_true (List.all_eq_true.mp b0 D.1 (List.mem_map.mpr ⟨D, ?_, rfl⟩))
      obtain ⟨h1, h2⟩ := List.getElem?_eq_some_iff.mp z
      exact List.mem_take_iff_getElem.mpr ⟨c', by omega, h2⟩
  · rw [e]
    exact of_decide_eq_true (List.all_eq_true.mp b1 n h)
/-! ### globals that are texts, tuples of texts -/
def fGS (x s : Str) (K : PySem.W.Frag) : Bool := (He.Fa.str x s).ok K
def strV (us : List Value) (ss : List Str) : Bool := match us, ss with
  | [], [] => true
  | .str y _ :: us, s :: ss => decide (y = s) && strV us ss
  | _, _ => false
def fGT (x : Str) (ss : List Str) (K : PySem.W.Frag) : Bool := (He.Fa.glo x).ok K && (match K.lookup (He.ga K x) with
  | some ⟨.type "tuple", _, .seq its _, _⟩ => decide (its.size ≤ 1000) && strV its.toList ss
  | _ => false)
theorem strV_ok : ∀ {us : List Value} {ss : List Str}, strV us ss = true → Vals (ss.map V.str) us
  | [], [], _ => .nil
  | .str y t :: us, s :: ss, h => by
    obtain ⟨h1, h2⟩ := Bool.and_eq_true_iff.mp h
    exact .cons ⟨t, by rw [of_decide_eq_true h1]⟩ (strV_ok h2)
  | [], _ :: _, h => by cases h
  | .none :: _, _, h => by cases h
  | .ellipsis :: _, _, h => by cases h
  | .notImplemented :: _, _, h => by cases h
  | .bool _ :: _, _, h => by cases h
  | .int _ _ :: _, _, h => by cases h
  | .float _ _ :: _, _, h => by cases h
  | .str _ _ :: _, [], h => by cases h
  | .bytes _ _ :: _, _, h => by cases h
  | .ref _ :: _, _, h => by cases h
  | .type _ :: _, _, h => by cases h
  | .builtin _ :: _, _, h => by cases h
theorem strs_is {K : PySem.W.Frag} {T : Ct} {F : Hp} : ∀ ss : List Str, IsL K T F (ss.map V.str) (ss.map D.str)
  | [] => .nil
  | s :: ss => .cons (.str s) (strs_is ss)
section
variable {X : Cx} {T : Ct} {W : WX} {x s : Str} {p pos apos : Pos} {h : Heap} {ss : List Str} {bs : List Nat} {e o : Expr} {i : Nat} {fo : En → Out D} {g : En → Out (List D)}
theorem pf_gs (KX : X.K.In h) (G : h.Ns mainGlobals X.mg) (b : fGS x s X.K = true) (hg : Gl X x) (hdb : (x == ("__debug__" : Str)) = false := by decide) : PF X T W (.Name x p) (cst (.str s)) := by
  have z : ∃ t, X.mg x = some (.str s t) := by
    have b' : (match PySem.W.nsIn X.K mainGlobals x with
      | some (some (.str y _)) => decide (y = s)
      | _ => false) = true := b
    split at b'
    · rename_i y t e
      exact ⟨t, by rw [← of_decide_eq_true b']; exact PySem.W.mg_of KX G e⟩
    · cases b'
  obtain ⟨t, z⟩ := z
  exact ⟨_, pe_glob (v := .str s) hg z ⟨t, rfl⟩ hdb, fun B F H σ ρ Q w q => q F H _ Gw.refl w (.str s)⟩
theorem pf_gt (KX : X.K.In h) (G : h.Ns mainGlobals X.mg) (b : fGT x ss X.K = true) (hg : Gl X x) (hdb : (x == ("__debug__" : Str)) = false := by decide) : PF X T W (.Name x p) (cst (.tup (ss.map D.str))) := by
  obtain ⟨b0, b1⟩ := Bool.and_eq_true_iff.mp b
  refine ⟨_, pe_glob (v := .ref (He.ga X.K x)) hg (He.glo_ok KX G b0) rfl hdb, fun B F H σ ρ Q w q => q F H _ Gw.refl w ?_⟩
  split at b1
  · rename_i dd its n sl ho
    obtain ⟨k1, k2⟩ := Bool.and_eq_true_iff.mp b1
    exact .tup (.inr ⟨_, its, n, ho, rfl, rfl, Nat.le_trans (of_decide_eq_true k1) (by rw [sizeLine_eq]; omega), strV_ok k2⟩) (strs_is ss)
  · cases b1
/-! ### s.join(name), name + [..], the name a list that stays -/
def jnV (i : Nat) (fo : En → Out D) : En → Out D := fun ρ => (fo ρ).bind fun x ρ => match x with
  | .str a => (vw i ρ).bind fun ds ρ => opt (kJoin a (.lst ds)) ρ
  | _ => .er
theorem pf_joinV (ho : PF X T W o fo) (he : PE X e (tVar i)) (hs : starEach [e] X.env = [(false, eval e X.env)] := by rfl) (hbase : attributeBase o "join" X.env (eval o X.env) = eval o X.env := by rfl) (hline : (apos.endLine == pos.line) = true := by rfl) :
    PF X T W (.Call (.Attribute o "join" apos) [e] [] pos) (jnV i fo) := by
  obtain ⟨t, ht, hp⟩ := ho
  refine ⟨_, pe_m1 PySem.F.slot_str_join PySem.F.type_str_join mt_join ht he hs hbase hline, fun B F H σ ρ Q w q => hp B F H σ ρ _ w (Post.step q fun x ρ1 F1 H1 v1 g1 w1 i1 q1 => ?_)⟩
  cases x with
  | str a =>
    rw [i1.strI]
    obtain ⟨ds, hs1, q1⟩ := vw_bind q1
    obtain ⟨b, vs, ev, s, l⟩ := slot_list w1 hs1
    refine ⟨⟨a, rfl⟩, _, ev, ?_⟩
    obtain ⟨d, ed, gd⟩ := opt_post q1
    unfold kJoin at ed
    rw [Option.bind_eq_some_iff] at ed
    obtain ⟨ys, e1, e2⟩ := ed
    split at e2
    · rename_i hz
      cases e2
      exact ⟨_, b, ys, rfl, rfl, .inl (by rw [← strsOf_ok l e1]; exact s), of_decide_eq_true hz, gd F1 H1 _ Gw.refl w1 (.str _)⟩
    · cases e2
  | _ => exact q1.elim
def nCatV (i : Nat) (g : En → Out (List D)) : En → Out (List D) := fun ρ => match ρ[i]? with
  | some (some (.ol _)) => (g ρ).bind fun ys ρ => (match ρ[i]? with
    | some (some (.ol xs)) => if decide (xs.length + ys.length ≤ sizeLine) then .ok (xs ++ ys) ρ else .er
    | _ => .er)
  | _ => .er
theorem pn_catV {a b : Expr} (ha : PE X a (tVar i)) (hb : PN X T W b g) : PN X T W (.BinOp a .Add b pos) (nCatV i g) := by
  obtain ⟨u, hu, hq⟩ := hb
  refine ⟨_, pe_op op_cat ha hu, fun B F H σ ρ Q w q => ?_⟩
  unfold nCatV at q
  split at q
  · rename_i xs0 e0
    obtain ⟨a, vs0, ev, _, _⟩ := slot_own w e0
    refine ⟨_, ev, hq B F H σ ρ _ w ((PostX.bind q).imp fun ys ρ2 _ q2 F2 H2 p2 ws g2 hb2 hf2 w2 l2 => ?_)⟩
    split at q2
    · rename_i xs e2
      split at q2
      · rename_i hz
        obtain ⟨a', vs, ev', ha', l⟩ := slot_own w2 e2
        rw [ev] at ev'
        cases ev'
        have hp2 : H2 p2 = some (.lst ws) := w2.b _ _ upd_same
        refine ⟨a, p2, vs, ws, rfl, rfl, ha', hp2, by rw [l.length, l2.length]; exact of_decide_eq_true hz, fun n hn => ?_⟩
        have w3 : Wd X.K T B F2 H2 σ ρ2 := w2.less (same_upd hb2)
        exact q2 F2 _ n _ g2 (w3.nofree hn).2 (w3.nofree hn).1 (w3.fresh hn) (l.append l2)
      · exact q2.elim
    · exact q2.elim
  · exact q.elim
end
end Ce
set_option maxHeartbeats 0
namespace K98
open PySem PySem.Spec PyProof.Rows L2 Ce
def top (i : Nat) : Stmt := PySem.Challenge.pw_certsums_k98_places_of_errors.main.body.getD i (.Pass ⟨0, 0, 0, 0⟩)
def mem (i j : Nat) : Stmt := (C8.clsBody (top i)).getD j (.Pass ⟨0, 0, 0, 0⟩)
abbrev cls : List (Str × List Str) := [((PySem.Str.ofString "Fraction"), [(PySem.Str.ofString "num"), (PySem.Str.ofString "den")]), ((PySem.Str.ofString "Poly"), [(PySem.Str.ofString "coefs"), (PySem.Str.ofString "den")]), ((PySem.Str.ofString "Operator"), [(PySem.Str.ofString "coefs")]), ((PySem.Str.ofString "Cursor"), [(PySem.Str.ofString "text"), (PySem.Str.ofString "place")]), ((PySem.Str.ofString "InvalidText"), [(PySem.Str.ofString "where")]), ((PySem.Str.ofString "fraction_at"), []), ((PySem.Str.ofString "poly_at"), [])]
abbrev T (K : PySem.W.Frag) : Ct := ctOf cls K
def ft_coefs : Nat → Option Nat := fun c => match c with
  | 1 => some 0
  | 2 => some 0
  | _ => none
def ft_den : Nat → Option Nat := fun c => match c with
  | 0 => some 1
  | 1 => some 1
  | _ => none
def ft_num : Nat → Option Nat := fun c => match c with
  | 0 => some 0
  | _ => none
def ft_text : Nat → Option Nat := fun c => match c with
  | 3 => some 0
  | _ => none
def ft_place : Nat → Option Nat := fun c => match c with
  | 3 => some 1
  | _ => none
def xt_InvalidText : Nat → Option Bool := fun c => match c with
  | 4 => some true
  | _ => none
def xf_where : Nat → Option Nat := fun c => match c with
  | 4 => some 0
  | _ => none
def d__law_numbers : Df := ⟨.g (PySem.Str.ofString "_law_numbers"), (PySem.Str.ofString "_law_numbers"), (PySem.Str.ofString "_law_numbers"), defArgs (top 60), defBody (top 60), defScope (top 60), [], []⟩
def d__law_divisor : Df := ⟨.g (PySem.Str.ofString "_law_divisor"), (PySem.Str.ofString "_law_divisor"), (PySem.Str.ofString "_law_divisor"), defArgs (top 61), defBody (top 61), defScope (top 61), [], []⟩
def d__law_shown : Df := ⟨.g (PySem.Str.ofString "_law_shown"), (PySem.Str.ofString "_law_shown"), (PySem.Str.ofString "_law_shown"), defArgs (top 62), defBody (top 62), defScope (top 62), [], []⟩
def d__law_spoilt : Df := ⟨.g (PySem.Str.ofString "_law_spoilt"), (PySem.Str.ofString "_law_spoilt"), (PySem.Str.ofString "_law_spoilt"), defArgs (top 63), defBody (top 63), defScope (top 63), [], []⟩
def d__law_poly : Df := ⟨.g (PySem.Str.ofString "_law_poly"), (PySem.Str.ofString "_law_poly"), (PySem.Str.ofString "_law_poly"), defArgs (top 64), defBody (top 64), defScope (top 64), [], []⟩
def d_write_fraction : Df := ⟨.g (PySem.Str.ofString "write_fraction"), (PySem.Str.ofString "write_fraction"), (PySem.Str.ofString "write_fraction"), defArgs (top 50), defBody (top 50), defScope (top 50), [], []⟩
def d_FractionD_initD : Df := ⟨.m (PySem.Str.ofString "Fraction") (PySem.Str.ofString "__init__"), (PySem.Str.ofString "__init__"), (PySem.Str.ofString "Fraction.__init__"), defArgs (mem 9 0), defBody (mem 9 0), defScope (mem 9 0), [.int 1], []⟩
def d_Poly_coefficient : Df := ⟨.m (PySem.Str.ofString "Poly") (PySem.Str.ofString "coefficient"), (PySem.Str.ofString "coefficient"), (PySem.Str.ofString "Poly.coefficient"), defArgs (mem 13 6), defBody (mem 13 6), defScope (mem 13 6), [], []⟩
def d_write_poly : Df := ⟨.g (PySem.Str.ofString "write_poly"), (PySem.Str.ofString "write_poly"), (PySem.Str.ofString "write_poly"), defArgs (top 53), defBody (top 53), defScope (top 53), [], []⟩
def d_write_operator : Df := ⟨.g (PySem.Str.ofString "write_operator"), (PySem.Str.ofString "write_operator"), (PySem.Str.ofString "write_operator"), defArgs (top 55), defBody (top 55), defScope (top 55), [], []⟩
def d_write_certificate : Df := ⟨.g (PySem.Str.ofString "write_certificate"), (PySem.Str.ofString "write_certificate"), (PySem.Str.ofString "write_certificate"), defArgs (top 58), defBody (top 58), defScope (top 58), [], []⟩
def d_CursorD_initD : Df := ⟨.m (PySem.Str.ofString "Cursor") (PySem.Str.ofString "__init__"), (PySem.Str.ofString "__init__"), (PySem.Str.ofString "Cursor.__init__"), defArgs (mem 29 0), defBody (mem 29 0), defScope (mem 29 0), [], []⟩
def d_Cursor_ahead : Df := ⟨.m (PySem.Str.ofString "Cursor") (PySem.Str.ofString "ahead"), (PySem.Str.ofString "ahead"), (PySem.Str.ofString "Cursor.ahead"), defArgs (mem 29 1), defBody (mem 29 1), defScope (mem 29 1), [], []⟩
def d_InvalidTextD_initD : Df := ⟨.m (PySem.Str.ofString "InvalidText") (PySem.Str.ofString "__init__"), (PySem.Str.ofString "__init__"), (PySem.Str.ofString "InvalidText.__init__"), defArgs (mem 7 0), defBody (mem 7 0), defScope (mem 7 0), [], []⟩
def d_Cursor_refuse : Df := ⟨.m (PySem.Str.ofString "Cursor") (PySem.Str.ofString "refuse"), (PySem.Str.ofString "refuse"), (PySem.Str.ofString "Cursor.refuse"), defArgs (mem 29 2), defBody (mem 29 2), defScope (mem 29 2), [], []⟩
def d_Cursor_take_word : Df := ⟨.m (PySem.Str.ofString "Cursor") (PySem.Str.ofString "take_word"), (PySem.Str.ofString "take_word"), (PySem.Str.ofString "Cursor.take_word"), defArgs (mem 29 4), defBody (mem 29 4), defScope (mem 29 4), [], []⟩
def d_Cursor_take : Df := ⟨.m (PySem.Str.ofString "Cursor") (PySem.Str.ofString "take"), (PySem.Str.ofString "take"), (PySem.Str.ofString "Cursor.take"), defArgs (mem 29 3), defBody (mem 29 3), defScope (mem 29 3), [], []⟩
def d_positive_at : Df := ⟨.g (PySem.Str.ofString "positive_at"), (PySem.Str.ofString "positive_at"), (PySem.Str.ofString "positive_at"), defArgs (top 30), defBody (top 30), defScope (top 30), [], []⟩
def d_count_at : Df := ⟨.g (PySem.Str.ofString "count_at"), (PySem.Str.ofString "count_at"), (PySem.Str.ofString "count_at"), defArgs (top 31), defBody (top 31), defScope (top 31), [], []⟩
def d_whole_at : Df := ⟨.g (PySem.Str.ofString "whole_at"), (PySem.Str.ofString "whole_at"), (PySem.Str.ofString "whole_at"), defArgs (top 32), defBody (top 32), defScope (top 32), [], []⟩
def d_fraction_at : Df := ⟨.g (PySem.Str.ofString "fraction_at"), (PySem.Str.ofString "fraction_at"), (PySem.Str.ofString "fraction_at"), defArgs (top 33), defBody (top 33), defScope (top 33), [], []⟩
def d_listed_at_fraction_at : Df := ⟨.g (PySem.Str.ofString "listed_at"), (PySem.Str.ofString "listed_at"), (PySem.Str.ofString "listed_at"), defArgs (top 34), defBody (top 34), defScope (top 34), [], []⟩
def d_Fraction_is_zero : Df := ⟨.p (PySem.Str.ofString "Fraction") (PySem.Str.ofString "is_zero"), (PySem.Str.ofString "is_zero"), (PySem.Str.ofString "Fraction.is_zero"), defArgs (mem 9 1), defBody (mem 9 1), defScope (mem 9 1), [], []⟩
def d_trimmed : Df := ⟨.g (PySem.Str.ofString "trimmed"), (PySem.Str.ofString "trimmed"), (PySem.Str.ofString "trimmed"), defArgs (top 11), defBody (top 11), defScope (top 11), [], []⟩
def d_content : Df := ⟨.g (PySem.Str.ofString "content"), (PySem.Str.ofString "content"), (PySem.Str.ofString "content"), defArgs (top 12), defBody (top 12), defScope (top 12), [], []⟩
def d_PolyD_initD : Df := ⟨.m (PySem.Str.ofString "Poly") (PySem.Str.ofString "__init__"), (PySem.Str.ofString "__init__"), (PySem.Str.ofString "Poly.__init__"), defArgs (mem 13 0), defBody (mem 13 0), defScope (mem 13 0), [.int 1], []⟩
def d_from_fractions : Df := ⟨.g (PySem.Str.ofString "from_fractions"), (PySem.Str.ofString "from_fractions"), (PySem.Str.ofString "from_fractions"), defArgs (top 14), defBody (top 14), defScope (top 14), [], []⟩
def d_poly_at : Df := ⟨.g (PySem.Str.ofString "poly_at"), (PySem.Str.ofString "poly_at"), (PySem.Str.ofString "poly_at"), defArgs (top 37), defBody (top 37), defScope (top 37), [], []⟩
def d_listed_at_poly_at : Df := ⟨.g (PySem.Str.ofString "listed_at"), (PySem.Str.ofString "listed_at"), (PySem.Str.ofString "listed_at"), defArgs (top 34), defBody (top 34), defScope (top 34), [], []⟩
def d_Poly_is_zero : Df := ⟨.p (PySem.Str.ofString "Poly") (PySem.Str.ofString "is_zero"), (PySem.Str.ofString "is_zero"), (PySem.Str.ofString "Poly.is_zero"), defArgs (mem 13 4), defBody (mem 13 4), defScope (mem 13 4), [], []⟩
def d_OperatorD_initD : Df := ⟨.m (PySem.Str.ofString "Operator") (PySem.Str.ofString "__init__"), (PySem.Str.ofString "__init__"), (PySem.Str.ofString "Operator.__init__"), defArgs (mem 16 0), defBody (mem 16 0), defScope (mem 16 0), [], []⟩
def d_operator_at : Df := ⟨.g (PySem.Str.ofString "operator_at"), (PySem.Str.ofString "operator_at"), (PySem.Str.ofString "operator_at"), defArgs (top 39), defBody (top 39), defScope (top 39), [], []⟩
def d_equal_at : Df := ⟨.g (PySem.Str.ofString "equal_at"), (PySem.Str.ofString "equal_at"), (PySem.Str.ofString "equal_at"), defArgs (top 46), defBody (top 46), defScope (top 46), [], []⟩
def d_certificate_at : Df := ⟨.g (PySem.Str.ofString "certificate_at"), (PySem.Str.ofString "certificate_at"), (PySem.Str.ofString "certificate_at"), defArgs (top 47), defBody (top 47), defScope (top 47), [], []⟩
def d_Cursor_finish : Df := ⟨.m (PySem.Str.ofString "Cursor") (PySem.Str.ofString "finish"), (PySem.Str.ofString "finish"), (PySem.Str.ofString "Cursor.finish"), defArgs (mem 29 5), defBody (mem 29 5), defScope (mem 29 5), [], []⟩
def d_read_certificate : Df := ⟨.g (PySem.Str.ofString "read_certificate"), (PySem.Str.ofString "read_certificate"), (PySem.Str.ofString "read_certificate"), defArgs (top 48), defBody (top 48), defScope (top 48), [], []⟩
def d_law : Df := ⟨.g (PySem.Str.ofString "law"), (PySem.Str.ofString "law"), (PySem.Str.ofString "law"), defArgs (top 65), defBody (top 65), defScope (top 65), [], []⟩
def fs0 (K : PySem.W.Frag) : List Bool := [fFree (PySem.Str.ofString "len") K, fFree (PySem.Str.ofString "range") K, fGlo (PySem.Str.ofString "_law_numbers") K, fFree (PySem.Str.ofString "abs") K, fFree (PySem.Str.ofString "int") K, fGlo (PySem.Str.ofString "_law_divisor") K, fFree (PySem.Str.ofString "str") K, fGlo (PySem.Str.ofString "_law_shown") K, fGlo (PySem.Str.ofString "_law_spoilt") K, fGlo (PySem.Str.ofString "_law_poly") K, fCls (PySem.Str.ofString "Poly") K, fNo (PySem.Str.ofString "Poly") (PySem.Str.ofString "coefs") K, fCls (PySem.Str.ofString "Operator") K, fNo (PySem.Str.ofString "Operator") (PySem.Str.ofString "coefs") K, fCls (PySem.Str.ofString "Fraction") K, fNo (PySem.Str.ofString "Fraction") (PySem.Str.ofString "den") K, fNo (PySem.Str.ofString "Poly") (PySem.Str.ofString "den") K, fNo (PySem.Str.ofString "Fraction") (PySem.Str.ofString "num") K, fBlt (PySem.Str.ofString "gcd") "math.gcd" K, fMk (PySem.Str.ofString "Fraction") K]
def fs1 (K : PySem.W.Frag) : List Bool := [fGlo (PySem.Str.ofString "Fraction") K, fMeth (PySem.Str.ofString "Poly") (PySem.Str.ofString "coefficient") K, fGlo (PySem.Str.ofString "write_fraction") K, fGlo (PySem.Str.ofString "write_poly") K, fGlo (PySem.Str.ofString "write_operator") K, fCls (PySem.Str.ofString "Cursor") K, fNo (PySem.Str.ofString "Cursor") (PySem.Str.ofString "text") K, fNo (PySem.Str.ofString "Cursor") (PySem.Str.ofString "place") K, fMk (PySem.Str.ofString "Cursor") K, fGlo (PySem.Str.ofString "Cursor") K, fMeth (PySem.Str.ofString "Cursor") (PySem.Str.ofString "ahead") K, fOex (PySem.Str.ofString "InvalidText") K, fXin (PySem.Str.ofString "InvalidText") (PySem.Str.ofString "where") K, fGlo (PySem.Str.ofString "InvalidText") K, fMeth (PySem.Str.ofString "Cursor") (PySem.Str.ofString "refuse") K, fMeth (PySem.Str.ofString "Cursor") (PySem.Str.ofString "take_word") K, fGT (PySem.Str.ofString "CERTIFICATES") ([(PySem.Str.ofString "closed"), (PySem.Str.ofString "open"), (PySem.Str.ofString "recurrence"), (PySem.Str.ofString "none"), (PySem.Str.ofString "equal"), (PySem.Str.ofString "different")] : List Str) K, fMeth (PySem.Str.ofString "Cursor") (PySem.Str.ofString "take") K, fGS (PySem.Str.ofString "DIGITS") (PySem.Str.ofString "0123456789") K, fGlo (PySem.Str.ofString "positive_at") K]
def fs2 (K : PySem.W.Frag) : List Bool := [fGlo (PySem.Str.ofString "count_at") K, fGlo (PySem.Str.ofString "whole_at") K, fGlo (PySem.Str.ofString "fraction_at") K, fGlo (PySem.Str.ofString "listed_at") K, fPrp (PySem.Str.ofString "Fraction") (PySem.Str.ofString "is_zero") K, fBlt (PySem.Str.ofString "lcm") "math.lcm" K, fFree (PySem.Str.ofString "list") K, fGlo (PySem.Str.ofString "trimmed") K, fGlo (PySem.Str.ofString "content") K, fFree (PySem.Str.ofString "tuple") K, fMk (PySem.Str.ofString "Poly") K, fGlo (PySem.Str.ofString "Poly") K, fGlo (PySem.Str.ofString "from_fractions") K, fGlo (PySem.Str.ofString "poly_at") K, fPrp (PySem.Str.ofString "Poly") (PySem.Str.ofString "is_zero") K, fMk (PySem.Str.ofString "Operator") K, fGlo (PySem.Str.ofString "Operator") K, fGlo (PySem.Str.ofString "operator_at") K, fGlo (PySem.Str.ofString "equal_at") K, fGlo (PySem.Str.ofString "certificate_at") K]
def fs3 (K : PySem.W.Frag) : List Bool := [fMeth (PySem.Str.ofString "Cursor") (PySem.Str.ofString "finish") K, fGlo (PySem.Str.ofString "read_certificate") K, fGlo (PySem.Str.ofString "write_certificate") K, fExm (PySem.Str.ofString "InvalidText") (PySem.Str.ofString "InvalidText") true K, fXf (PySem.Str.ofString "InvalidText") K, fIsT "int" ((cls.take 4).map (·.1)) K, fFree (PySem.Str.ofString "isinstance") K, fIsT "bool" ((cls.take 4).map (·.1)) K, fFree (PySem.Str.ofString "bool") K, fGlo (PySem.Str.ofString "law") K]
def fs (K : PySem.W.Frag) : List Bool := fs0 K ++ (fs1 K ++ (fs2 K ++ (fs3 K)))
def fn0 : List Df := [d__law_numbers, d__law_divisor, d__law_shown, d__law_spoilt, d__law_poly, d_write_fraction, d_FractionD_initD, d_Poly_coefficient, d_write_poly, d_write_operator, d_write_certificate, d_CursorD_initD, d_Cursor_ahead, d_InvalidTextD_initD, d_Cursor_refuse, d_Cursor_take_word, d_Cursor_take, d_positive_at, d_count_at, d_whole_at]
def fn1 : List Df := [d_fraction_at, d_listed_at_fraction_at, d_Fraction_is_zero, d_trimmed, d_content, d_PolyD_initD, d_from_fractions, d_poly_at, d_listed_at_poly_at, d_Poly_is_zero, d_OperatorD_initD, d_operator_at, d_equal_at, d_certificate_at, d_Cursor_finish, d_read_certificate, d_law]
def fn : List Df := fn0 ++ (fn1)
/-- what the head leaves -/
structure Bd (K : PySem.W.Frag) (mg : Str → Option Value) (h : Heap) : Prop where
  c : SaysX fs fn K
  X : K.In h
  G : h.Ns mainGlobals mg
theorem bt_len : bootBuiltins (PySem.Str.ofString "len") = some (.builtin "len") := by decide +kernel
theorem bt_abs : bootBuiltins (PySem.Str.ofString "abs") = some (.builtin "abs") := by decide +kernel
theorem bt_int : bootBuiltins (PySem.Str.ofString "int") = some (.type "int") := by decide +kernel
theorem bt_str : bootBuiltins (PySem.Str.ofString "str") = some (.type "str") := by decide +kernel
theorem bt_list : bootBuiltins (PySem.Str.ofString "list") = some (.type "list") := by decide +kernel
theorem bt_tuple : bootBuiltins (PySem.Str.ofString "tuple") = some (.type "tuple") := by decide +kernel
theorem bt_isinstance : bootBuiltins (PySem.Str.ofString "isinstance") = some (.builtin "isinstance") := by decide +kernel
theorem bt_bool : bootBuiltins (PySem.Str.ofString "bool") = some (.type "bool") := by decide +kernel
section
variable {K : PySem.W.Frag} {mg : Str → Option Value} {h : Heap}
theorem Bd.f0 (E : Bd K mg h) : fFree (PySem.Str.ofString "len") K = true := E.c.fact 0
theorem Bd.f1 (E : Bd K mg h) : fFree (PySem.Str.ofString "range") K = true := E.c.fact 1
theorem Bd.f2 (E : Bd K mg h) : fGlo (PySem.Str.ofString "_law_numbers") K = true := E.c.fact 2
theorem Bd.f3 (E : Bd K mg h) : fFree (PySem.Str.ofString "abs") K = true := E.c.fact 3
theorem Bd.f4 (E : Bd K mg h) : fFree (PySem.Str.ofString "int") K = true := E.c.fact 4
theorem Bd.f5 (E : Bd K mg h) : fGlo (PySem.Str.ofString "_law_divisor") K = true := E.c.fact 5
theorem Bd.f6 (E : Bd K mg h) : fFree (PySem.Str.ofString "str") K = true := E.c.fact 6
theorem Bd.f7 (E : Bd K mg h) : fGlo (PySem.Str.ofString "_law_shown") K = true := E.c.fact 7
theorem Bd.f8 (E : Bd K mg h) : fGlo (PySem.Str.ofString "_law_spoilt") K = true := E.c.fact 8
theorem Bd.f9 (E : Bd K mg h) : fGlo (PySem.Str.ofString "_law_poly") K = true := E.c.fact 9
theorem Bd.f10 (E : Bd K mg h) : fCls (PySem.Str.ofString "Poly") K = true := E.c.fact 10
theorem Bd.f11 (E : Bd K mg h) : fNo (PySem.Str.ofString "Poly") (PySem.Str.ofString "coefs") K = true := E.c.fact 11
theorem Bd.f12 (E : Bd K mg h) : fCls (PySem.Str.ofString "Operator") K = true := E.c.fact 12
theorem Bd.f13 (E : Bd K mg h) : fNo (PySem.Str.ofString "Operator") (PySem.Str.ofString "coefs") K = true := E.c.fact 13
theorem Bd.f14 (E : Bd K mg h) : fCls (PySem.Str.ofString "Fraction") K = true := E.c.fact 14
theorem Bd.f15 (E : Bd K mg h) : fNo (PySem.Str.ofString "Fraction") (PySem.Str.ofString "den") K = true := E.c.fact 15
theorem Bd.f16 (E : Bd K mg h) : fNo (PySem.Str.ofString "Poly") (PySem.Str.ofString "den") K = true := E.c.fact 16
theorem Bd.f17 (E : Bd K mg h) : fNo (PySem.Str.ofString "Fraction") (PySem.Str.ofString "num") K = true := E.c.fact 17
theorem Bd.f18 (E : Bd K mg h) : fBlt (PySem.Str.ofString "gcd") "math.gcd" K = true := E.c.fact 18
theorem Bd.f19 (E : Bd K mg h) : fMk (PySem.Str.ofString "Fraction") K = true := E.c.fact 19
theorem Bd.f20 (E : Bd K mg h) : fGlo (PySem.Str.ofString "Fraction") K = true := E.c.fact 20
theorem Bd.f21 (E : Bd K mg h) : fMeth (PySem.Str.ofString "Poly") (PySem.Str.ofString "coefficient") K = true := E.c.fact 21
theorem Bd.f22 (E : Bd K mg h) : fGlo (PySem.Str.ofString "write_fraction") K = true := E.c.fact 22
theorem Bd.f23 (E : Bd K mg h) : fGlo (PySem.Str.ofString "write_poly") K = true := E.c.fact 23
theorem Bd.f24 (E : Bd K mg h) : fGlo (PySem.Str.ofString "write_operator") K = true := E.c.fact 24
theorem Bd.f25 (E : Bd K mg h) : fCls (PySem.Str.ofString "Cursor") K = true := E.c.fact 25
theorem Bd.f26 (E : Bd K mg h) : fNo (PySem.Str.ofString "Cursor") (PySem.Str.ofString "text") K = true := E.c.fact 26
theorem Bd.f27 (E : Bd K mg h) : fNo (PySem.Str.ofString "Cursor") (PySem.Str.ofString "place") K = true := E.c.fact 27
theorem Bd.f28 (E : Bd K mg h) : fMk (PySem.Str.ofString "Cursor") K = true := E.c.fact 28
theorem Bd.f29 (E : Bd K mg h) : fGlo (PySem.Str.ofString "Cursor") K = true := E.c.fact 29
theorem Bd.f30 (E : Bd K mg h) : fMeth (PySem.Str.ofString "Cursor") (PySem.Str.ofString "ahead") K = true := E.c.fact 30
theorem Bd.f31 (E : Bd K mg h) : fOex (PySem.Str.ofString "InvalidText") K = true := E.c.fact 31
theorem Bd.f32 (E : Bd K mg h) : fXin (PySem.Str.ofString "InvalidText") (PySem.Str.ofString "where") K = true := E.c.fact 32
theorem Bd.f33 (E : Bd K mg h) : fGlo (PySem.Str.ofString "InvalidText") K = true := E.c.fact 33
theorem Bd.f34 (E : Bd K mg h) : fMeth (PySem.Str.ofString "Cursor") (PySem.Str.ofString "refuse") K = true := E.c.fact 34
theorem Bd.f35 (E : Bd K mg h) : fMeth (PySem.Str.ofString "Cursor") (PySem.Str.ofString "take_word") K = true := E.c.fact 35
theorem Bd.f36 (E : Bd K mg h) : fGT (PySem.Str.ofString "CERTIFICATES") ([(PySem.Str.ofString "closed"), (PySem.Str.ofString "open"), (PySem.Str.ofString "recurrence"), (PySem.Str.ofString "none"), (PySem.Str.ofString "equal"), (PySem.Str.ofString "different")] : List Str) K = true := E.c.fact 36
theorem Bd.f37 (E : Bd K mg h) : fMeth (PySem.Str.ofString "Cursor") (PySem.Str.ofString "take") K = true := E.c.fact 37
theorem Bd.f38 (E : Bd K mg h) : fGS (PySem.Str.ofString "DIGITS") (PySem.Str.ofString "0123456789") K = true := E.c.fact 38
theorem Bd.f39 (E : Bd K mg h) : fGlo (PySem.Str.ofString "positive_at") K = true := E.c.fact 39
theorem Bd.f40 (E : Bd K mg h) : fGlo (PySem.Str.ofString "count_at") K = true := E.c.fact 40
theorem Bd.f41 (E : Bd K mg h) : fGlo (PySem.Str.ofString "whole_at") K = true := E.c.fact 41
theorem Bd.f42 (E : Bd K mg h) : fGlo (PySem.Str.ofString "fraction_at") K = true := E.c.fact 42
theorem Bd.f43 (E : Bd K mg h) : fGlo (PySem.Str.ofString "listed_at") K = true := E.c.fact 43
theorem Bd.f44 (E : Bd K mg h) : fPrp (PySem.Str.ofString "Fraction") (PySem.Str.ofString "is_zero") K = true := E.c.fact 44
theorem Bd.f45 (E : Bd K mg h) : fBlt (PySem.Str.ofString "lcm") "math.lcm" K = true := E.c.fact 45
theorem Bd.f46 (E : Bd K mg h) : fFree (PySem.Str.ofString "list") K = true := E.c.fact 46
theorem Bd.f47 (E : Bd K mg h) : fGlo (PySem.Str.ofString "trimmed") K = true := E.c.fact 47
theorem Bd.f48 (E : Bd K mg h) : fGlo (PySem.Str.ofString "content") K = true := E.c.fact 48
theorem Bd.f49 (E : Bd K mg h) : fFree (PySem.Str.ofString "tuple") K = true := E.c.fact 49
theorem Bd.f50 (E : Bd K mg h) : fMk (PySem.Str.ofString "Poly") K = true := E.c.fact 50
theorem Bd.f51 (E : Bd K mg h) : fGlo (PySem.Str.ofString "Poly") K = true := E.c.fact 51
theorem Bd.f52 (E : Bd K mg h) : fGlo (PySem.Str.ofString "from_fractions") K = true := E.c.fact 52
theorem Bd.f53 (E : Bd K mg h) : fGlo (PySem.Str.ofString "poly_at") K = true := E.c.fact 53
theorem Bd.f54 (E : Bd K mg h) : fPrp (PySem.Str.ofString "Poly") (PySem.Str.ofString "is_zero") K = true := E.c.fact 54
theorem Bd.f55 (E : Bd K mg h) : fMk (PySem.Str.ofString "Operator") K = true := E.c.fact 55
theorem Bd.f56 (E : Bd K mg h) : fGlo (PySem.Str.ofString "Operator") K = true := E.c.fact 56
theorem Bd.f57 (E : Bd K mg h) : fGlo (PySem.Str.ofString "operator_at") K = true := E.c.fact 57
theorem Bd.f58 (E : Bd K mg h) : fGlo (PySem.Str.ofString "equal_at") K = true := E.c.fact 58
theorem Bd.f59 (E : Bd K mg h) : fGlo (PySem.Str.ofString "certificate_at") K = true := E.c.fact 59
theorem Bd.f60 (E : Bd K mg h) : fMeth (PySem.Str.ofString "Cursor") (PySem.Str.ofString "finish") K = true := E.c.fact 60
theorem Bd.f61 (E : Bd K mg h) : fGlo (PySem.Str.ofString "read_certificate") K = true := E.c.fact 61
theorem Bd.f62 (E : Bd K mg h) : fGlo (PySem.Str.ofString "write_certificate") K = true := E.c.fact 62
theorem Bd.f63 (E : Bd K mg h) : fExm (PySem.Str.ofString "InvalidText") (PySem.Str.ofString "InvalidText") true K = true := E.c.fact 63
theorem Bd.f64 (E : Bd K mg h) : fXf (PySem.Str.ofString "InvalidText") K = true := E.c.fact 64
theorem Bd.f65 (E : Bd K mg h) : fIsT "int" ((cls.take 4).map (·.1)) K = true := E.c.fact 65
theorem Bd.f66 (E : Bd K mg h) : fFree (PySem.Str.ofString "isinstance") K = true := E.c.fact 66
theorem Bd.f67 (E : Bd K mg h) : fIsT "bool" ((cls.take 4).map (·.1)) K = true := E.c.fact 67
theorem Bd.f68 (E : Bd K mg h) : fFree (PySem.Str.ofString "bool") K = true := E.c.fact 68
theorem Bd.f69 (E : Bd K mg h) : fGlo (PySem.Str.ofString "law") K = true := E.c.fact 69
theorem Bd.insOk (E : Bd K mg h) : ∀ c ∈ [0, 1, 2, 3], InOk K (T K) c := by
  intro c hc
  simp only [List.mem_cons, List.not_mem_nil, or_false] at hc
  rcases hc with rfl | rfl | rfl | rfl
  · exact in_of (c := 0) rfl E.f14
  · exact in_of (c := 1) rfl E.f10
  · exact in_of (c := 2) rfl E.f12
  · exact in_of (c := 3) rfl E.f25
theorem Bd.tft_coefs (E : Bd K mg h) : FldOk K (T K) (PySem.Str.ofString "coefs") ft_coefs := fld_of fun c j e => by
  unfold ft_coefs at e
  split at e
  · cases e; exact ⟨_, rfl, E.f10, E.f11, rfl, by decide⟩
  · cases e; exact ⟨_, rfl, E.f12, E.f13, rfl, by decide⟩
  · cases e
theorem Bd.tft_den (E : Bd K mg h) : FldOk K (T K) (PySem.Str.ofString "den") ft_den := fld_of fun c j e => by
  unfold ft_den at e
  split at e
  · cases e; exact ⟨_, rfl, E.f14, E.f15, rfl, by decide⟩
  · cases e; exact ⟨_, rfl, E.f10, E.f16, rfl, by decide⟩
  · cases e
theorem Bd.tft_num (E : Bd K mg h) : FldOk K (T K) (PySem.Str.ofString "num") ft_num := fld_of fun c j e => by
  unfold ft_num at e
  split at e
  · cases e; exact ⟨_, rfl, E.f14, E.f17, rfl, by decide⟩
  · cases e
theorem Bd.tft_text (E : Bd K mg h) : FldOk K (T K) (PySem.Str.ofString "text") ft_text := fld_of fun c j e => by
  unfold ft_text at e
  split at e
  · cases e; exact ⟨_, rfl, E.f25, E.f26, rfl, by decide⟩
  · cases e
theorem Bd.tft_place (E : Bd K mg h) : FldOk K (T K) (PySem.Str.ofString "place") ft_place := fld_of fun c j e => by
  unfold ft_place at e
  split at e
  · cases e; exact ⟨_, rfl, E.f25, E.f27, rfl, by decide⟩
  · cases e
theorem Bd.xmxt_InvalidText (E : Bd K mg h) : ∀ c b, xt_InvalidText c = some b → PySem.W.exmOne K (.ref ((T K).cl c)) (.ref (He.ga K (PySem.Str.ofString "InvalidText"))) = some b := exm_of fun c b e => by
  unfold xt_InvalidText at e
  split at e
  · cases e; exact ⟨_, rfl, E.f63⟩
  · cases e
theorem xf_where_ok : ∀ c j, xf_where c = some j → ((T K).fl c)[j]? = some (PySem.Str.ofString "where") ∧ ((T K).fl c).Nodup := by
  intro c j e
  unfold xf_where at e
  split at e
  · cases e; exact ⟨rfl, by show ([(PySem.Str.ofString "where")] : List Str).Nodup; decide⟩
  · cases e
end
/-! _law_numbers -/
def b__law_numbers : En → SOut := (sCons (sSet 2 (cst (.int 0))) (sCons (sIf (tst (op2 iGt (vLen (vw 0)) (cst (.int 0)))) (sCons (sSet 2 (ixV 0 (cst (.int 0)))) sNil) sNil) (sCons (sSet 3 (op2 iGe (rd 2) (op2 iPow (cst (.int 10)) (cst (.int 18))))) (sCons (sSetN 4 (nLst aN)) (sCons (sFor (itR1 (aC (rd 1) aN)) (gN 5) (sCons (sIf (tAnd2 (tst (rd 3)) (tst (op2 iGt (rd 2) (cst (.int 0))))) (sCons (sApp 4 (op2 iMod (rd 2) (cst (.int 1000000)))) (sCons (sSet 2 (op2 iDiv (rd 2) (cst (.int 1000000)))) sNil)) (sCons (sSet 6 (cst (.int 13))) (sCons (sIf (tst (op2 iGt (vLen (vw 0)) (cst (.int 0)))) (sCons (sSet 6 (op2 iAdd (ixV 0 (op2 iMod (rd 5) (vLen (vw 0)))) (op2 iMul (cst (.int 7919)) (rd 5)))) sNil) sNil) (sCons (sApp 4 (op2 iMod (op2 iMod (op2 iMul (op2 iMod (op2 iMul (rd 6) (cst (.int 48271))) (cst (.int 2147483647))) (cst (.int 69621))) (cst (.int 2147483629))) (cst (.int 1000000)))) sNil)))) sNil)) (sCons (sRet (rd 4)) sNil))))))
def m__law_numbers : En → Out D := mOf 7 [] b__law_numbers
theorem sc__law_numbers : FnScope [(PySem.Str.ofString "_law_script"), (PySem.Str.ofString "_law_count"), (PySem.Str.ofString "_law_rest"), (PySem.Str.ofString "_law_by_digits"), (PySem.Str.ofString "_law_numbers_here"), (PySem.Str.ofString "_law_k"), (PySem.Str.ofString "_law_cell")] [(PySem.Str.ofString "_law_script"), (PySem.Str.ofString "_law_count")] (defScope (top 60)) := ⟨rfl, rfl, rfl, by decide +kernel, rfl, by decide +kernel, by decide +kernel⟩
theorem ok__law_numbers {P : Program} {w : World} {K : PySem.W.Frag} {mg : Str → Option Value} {base h : Heap} (E : Bd K mg h) : Got P w K mg base (T K) d__law_numbers 1 [(PySem.Str.ofString "_law_script"), (PySem.Str.ofString "_law_count")] m__law_numbers := by
  obtain ⟨fd, F⟩ := E.c.def_ 0 (d := d__law_numbers)
  have sc := sc__law_numbers
  have F' : FunD K (PySem.Str.ofString "_law_numbers") (PySem.Str.ofString "_law_numbers") (defArgs (top 60)) (defBody (top 60)) (defScope (top 60)) (d__law_numbers.dvs K) [] (adr K (.g (PySem.Str.ofString "_law_numbers"))) fd := F
  have z := @fn_okE P w K mg base _ _ _ _ _ _ _ _ fd (T K) [(PySem.Str.ofString "_law_script"), (PySem.Str.ofString "_law_count"), (PySem.Str.ofString "_law_rest"), (PySem.Str.ofString "_law_by_digits"), (PySem.Str.ofString "_law_numbers_here"), (PySem.Str.ofString "_law_k"), (PySem.Str.ofString "_law_cell")] [(PySem.Str.ofString "_law_script"), (PySem.Str.ofString "_law_count")] 0 [] b__law_numbers F' sc rfl
  have z2 : _ → FnOk P w K mg base (L2.CX P w) 1 (adr K (.g (PySem.Str.ofString "_law_numbers"))) fd [(PySem.Str.ofString "_law_script"), (PySem.Str.ofString "_law_count")] (spM K (T K) 2 m__law_numbers) := z
  refine ⟨fd, F, z2 ?_⟩
  intro cdv A outer s H Ex X eX hr tk hp
  subst eX
  exact (zs_cons (z_set (i := 2) sc.nd rfl (Or.inl rfl) pf_int) (zs_cons (z_if (tf_cmp of_gt (pf_lenV (vf_v (pv 0)) rfl (free_of E.X E.G E.f0) bt_len) pf_int (by rfl)) (zs_cons (z_set (i := 2) sc.nd rfl (Or.inl rfl) (pf_ixV (pv 0) pf_int)) zs_nil) zs_nil) (zs_cons (z_set (i := 3) sc.nd rfl (Or.inl rfl) (pf_cmp of_ge (pf_v (pv 2)) (pf_op of_pow pf_int pf_int) (by rfl))) (zs_cons (z_setN (i := 4) sc.nd rfl (Or.inl rfl) (pn_lst af_nil)) (zs_cons (z_for hp rfl (if_range1 rfl (free_of E.X E.G E.f1) (af_cons (pf_v (pv 1)) af_nil)) (gf_name (i := 5) sc.nd rfl (Or.inl rfl)) (zs_cons (z_if (tf_w (wf_and (tf_val (pf_v (pv 3))) (wf_and1 (tf_cmp of_gt (pf_v (pv 2)) pf_int (by rfl))))) (zs_cons (z_app (pv 4) (pf_op of_mod (pf_v (pv 2)) pf_int)) (zs_cons (z_set (i := 2) sc.nd rfl (Or.inl rfl) (pf_op of_div (pf_v (pv 2)) pf_int)) zs_nil)) (zs_cons (z_set (i := 6) sc.nd rfl (Or.inl rfl) pf_int) (zs_cons (z_if (tf_cmp of_gt (pf_lenV (vf_v (pv 0)) rfl (free_of E.X E.G E.f0) bt_len) pf_int (by rfl)) (zs_cons (z_set (i := 6) sc.nd rfl (Or.inl rfl) (pf_op of_add (pf_ixV (pv 0) (pf_op of_mod (pf_v (pv 5)) (pf_lenV (vf_v (pv 0)) rfl (free_of E.X E.G E.f0) bt_len))) (pf_op of_mul pf_int (pf_v (pv 5))))) zs_nil) zs_nil) (zs_cons (z_app (pv 4) (pf_op of_mod (pf_op of_mod (pf_op of_mul (pf_op of_mod (pf_op of_mul (pf_v (pv 6)) pf_int) pf_int) pf_int) pf_int) pf_int)) zs_nil)))) zs_nil)) (zs_cons (z_ret (pf_v (pv 4))) zs_nil))))))
/-! _law_divisor -/
def b__law_divisor : En → SOut := (sCons (sSet 0 (cl1 (fun ds => opt (k1 (fun i => .int (if i < 0 then -i else i)) ds)) (aC (rd 0) aN))) (sCons (sSet 1 (cl1 (fun ds => opt (k1 (fun i => .int (if i < 0 then -i else i)) ds)) (aC (rd 1) aN))) (sCons (whL (tst (op2 iGt (rd 1) (cst (.int 0)))) (sCons (sSet 2 (op2 iMod (cl1 (fun ds => opt (kInt ds)) (aC (rd 0) aN)) (rd 1))) (sCons (sSet 0 (rd 1)) (sCons (sSet 1 (rd 2)) sNil))) 1000000000) (sCons (sRet (rd 0)) sNil))))
def m__law_divisor : En → Out D := mOf 3 [] b__law_divisor
theorem sc__law_divisor : FnScope [(PySem.Str.ofString "_law_a"), (PySem.Str.ofString "_law_b"), (PySem.Str.ofString "_law_rest")] [(PySem.Str.ofString "_law_a"), (PySem.Str.ofString "_law_b")] (defScope (top 61)) := ⟨rfl, rfl, rfl, by decide +kernel, rfl, by decide +kernel, by decide +kernel⟩
theorem ok__law_divisor {P : Program} {w : World} {K : PySem.W.Frag} {mg : Str → Option Value} {base h : Heap} (E : Bd K mg h) : Got P w K mg base (T K) d__law_divisor 1 [(PySem.Str.ofString "_law_a"), (PySem.Str.ofString "_law_b")] m__law_divisor := by
  obtain ⟨fd, F⟩ := E.c.def_ 1 (d := d__law_divisor)
  have sc := sc__law_divisor
  have F' : FunD K (PySem.Str.ofString "_law_divisor") (PySem.Str.ofString "_law_divisor") (defArgs (top 61)) (defBody (top 61)) (defScope (top 61)) (d__law_divisor.dvs K) [] (adr K (.g (PySem.Str.ofString "_law_divisor"))) fd := F
  have z := @fn_okE P w K mg base _ _ _ _ _ _ _ _ fd (T K) [(PySem.Str.ofString "_law_a"), (PySem.Str.ofString "_law_b"), (PySem.Str.ofString "_law_rest")] [(PySem.Str.ofString "_law_a"), (PySem.Str.ofString "_law_b")] 0 [] b__law_divisor F' sc rfl
  have z2 : _ → FnOk P w K mg base (L2.CX P w) 1 (adr K (.g (PySem.Str.ofString "_law_divisor"))) fd [(PySem.Str.ofString "_law_a"), (PySem.Str.ofString "_law_b")] (spM K (T K) 2 m__law_divisor) := z
  refine ⟨fd, F, z2 ?_⟩
  intro cdv A outer s H Ex X eX hr tk hp
  subst eX
  exact (zs_cons (z_set (i := 0) sc.nd rfl (Or.inl rfl) (pf_callB cf_abs rfl (free_of E.X E.G E.f3) bt_abs (af_cons (pf_v (pv 0)) af_nil))) (zs_cons (z_set (i := 1) sc.nd rfl (Or.inl rfl) (pf_callB cf_abs rfl (free_of E.X E.G E.f3) bt_abs (af_cons (pf_v (pv 1)) af_nil))) (zs_cons (z_while 1000000000 hp (tf_cmp of_gt (pf_v (pv 1)) pf_int (by rfl)) (zs_cons (z_set (i := 2) sc.nd rfl (Or.inl rfl) (pf_op of_mod (pf_callTy cf_int rfl (free_of E.X E.G E.f4) bt_int (af_cons (pf_v (pv 0)) af_nil)) (pf_v (pv 1)))) (zs_cons (z_set (i := 0) sc.nd rfl (Or.inl rfl) (pf_v (pv 1))) (zs_cons (z_set (i := 1) sc.nd rfl (Or.inl rfl) (pf_v (pv 2))) zs_nil)))) (zs_cons (z_ret (pf_v (pv 0))) zs_nil))))
/-! _law_shown -/
def b__law_shown : En → SOut := (sCons (sSet 2 (cl1 (fnM 2 [] m__law_divisor) (aC (rd 0) (aC (rd 1) aN)))) (sCons (sIf (tst (op2 sEq (rd 1) (rd 2))) (sCons (sRet (cl1 (fun ds => opt (kStr ds)) (aC (op2 iDiv (rd 0) (rd 2)) aN))) sNil) sNil) (sCons (sRet (op2 tAddS (op2 tAddS (cl1 (fun ds => opt (kStr ds)) (aC (op2 iDiv (rd 0) (rd 2)) aN)) (cst (.str (PySem.Str.ofString "/")))) (cl1 (fun ds => opt (kStr ds)) (aC (op2 iDiv (rd 1) (rd 2)) aN)))) sNil)))
def m__law_shown : En → Out D := mOf 3 [] b__law_shown
theorem sc__law_shown : FnScope [(PySem.Str.ofString "_law_num"), (PySem.Str.ofString "_law_den"), (PySem.Str.ofString "_law_shared")] [(PySem.Str.ofString "_law_num"), (PySem.Str.ofString "_law_den")] (defScope (top 62)) := ⟨rfl, rfl, rfl, by decide +kernel, rfl, by decide +kernel, by decide +kernel⟩
theorem ok__law_shown {P : Program} {w : World} {K : PySem.W.Frag} {mg : Str → Option Value} {base h : Heap} (E : Bd K mg h) : Got P w K mg base (T K) d__law_shown 2 [(PySem.Str.ofString "_law_num"), (PySem.Str.ofString "_law_den")] m__law_shown := by
  obtain ⟨fd, F⟩ := E.c.def_ 2 (d := d__law_shown)
  obtain ⟨fd__law_divisor, F__law_divisor, G__law_divisor⟩ := ok__law_divisor (P := P) (w := w) (base := base) E
  have b__law_divisor_2 : Dfl K (T K) fd__law_divisor [(PySem.Str.ofString "_law_a"), (PySem.Str.ofString "_law_b")] [] := dfl0 F__law_divisor fun _ _ _ _ _ _ us hl => match us, hl with | [_, _], _ => rfl
  have sc := sc__law_shown
  have F' : FunD K (PySem.Str.ofString "_law_shown") (PySem.Str.ofString "_law_shown") (defArgs (top 62)) (defBody (top 62)) (defScope (top 62)) (d__law_shown.dvs K) [] (adr K (.g (PySem.Str.ofString "_law_shown"))) fd := F
  have z := @fn_okE P w K mg base _ _ _ _ _ _ _ _ fd (T K) [(PySem.Str.ofString "_law_num"), (PySem.Str.ofString "_law_den"), (PySem.Str.ofString "_law_shared")] [(PySem.Str.ofString "_law_num"), (PySem.Str.ofString "_law_den")] 1 [] b__law_shown F' sc rfl
  have z2 : _ → FnOk P w K mg base (L2.CX P w) 2 (adr K (.g (PySem.Str.ofString "_law_shown"))) fd [(PySem.Str.ofString "_law_num"), (PySem.Str.ofString "_law_den")] (spM K (T K) 2 m__law_shown) := z
  refine ⟨fd, F, z2 ?_⟩
  intro cdv A outer s H Ex X eX hr tk hp
  subst eX
  exact (zs_cons (z_set (i := 2) sc.nd rfl (Or.inl rfl) (pf_call (kf_fn G__law_divisor (hr.mono (by decide)) b__law_divisor_2 tk) rfl (glo_of E.X E.G E.f5) (keep_of E.f5) (af_cons (pf_v (pv 0)) (af_cons (pf_v (pv 1)) af_nil)))) (zs_cons (z_if (tf_cmp of_eq (pf_v (pv 1)) (pf_v (pv 2)) (by rfl)) (zs_cons (z_ret (pf_callTy cf_str rfl (free_of E.X E.G E.f6) bt_str (af_cons (pf_op of_div (pf_v (pv 0)) (pf_v (pv 2))) af_nil))) zs_nil) zs_nil) (zs_cons (z_ret (pf_op of_addS (pf_op of_addS (pf_callTy cf_str rfl (free_of E.X E.G E.f6) bt_str (af_cons (pf_op of_div (pf_v (pv 0)) (pf_v (pv 2))) af_nil)) pf_str) (pf_callTy cf_str rfl (free_of E.X E.G E.f6) bt_str (af_cons (pf_op of_div (pf_v (pv 1)) (pf_v (pv 2))) af_nil)))) zs_nil)))
/-! _law_spoilt -/
def b__law_spoilt : En → SOut := (sCons (sSet 4 (cl1 (fnM 2 [] m__law_shown) (aC (rd 1) (aC (rd 2) aN)))) (sCons (sSet 5 (cl1 (fnM 2 [] m__law_divisor) (aC (rd 1) (aC (rd 2) aN)))) (sCons (sIf (tst (op2 sEq (rd 0) (cst (.int 0)))) (sCons (sSet 6 (op2 tAddS (op2 tAddS (cl1 (fun ds => opt (kStr ds)) (aC (op2 iMul (op2 iDiv (rd 1) (rd 5)) (rd 3)) aN)) (cst (.str (PySem.Str.ofString "/")))) (cl1 (fun ds => opt (kStr ds)) (aC (op2 iMul (op2 iDiv (rd 2) (rd 5)) (rd 3)) aN)))) (sCons (sRet (fz (nLst (aC (rd 6) (aC (cl1 (fun ds => opt (kLen ds)) (aC (rd 6) aN)) aN))))) sNil)) sNil) (sCons (sIf (tst (op2 sEq (rd 0) (cst (.int 1)))) (sCons (sRet (fz (nLst (aC (op2 tAddS (cl1 (fun ds => opt (kStr ds)) (aC (rd 1) aN)) (cst (.str (PySem.Str.ofString "/1")))) (aC (op2 iAdd (cl1 (fun ds => opt (kLen ds)) (aC (cl1 (fun ds => opt (kStr ds)) (aC (rd 1) aN)) aN)) (cst (.int 2))) aN))))) sNil) sNil) (sCons (sIf (tst (op2 sEq (rd 0) (cst (.int 2)))) (sCons (sIf (tst (op2 iLt (rd 1) (cst (.int 0)))) (sCons (sRet (fz (nLst (aC (op2 tAddS (cst (.str (PySem.Str.ofString "-0"))) (sl3 (rd 4) (isP (cst (.int 1))) noP)) (aC (cst (.int 1)) aN))))) sNil) sNil) (sCons (sRet (fz (nLst (aC (op2 tAddS (cst (.str (PySem.Str.ofString "0"))) (rd 4)) (aC (cst (.int 1)) aN))))) sNil)) sNil) (sCons (sIf (tst (op2 sEq (rd 0) (cst (.int 3)))) (sCons (sRet (fz (nLst (aC (cst (.str (PySem.Str.ofString "-0"))) (aC (cst (.int 1)) aN))))) sNil) sNil) (sCons (sIf (tst (op2 sEq (rd 0) (cst (.int 4)))) (sCons (sRet (fz (nLst (aC (op2 tAddS (rd 4) (cst (.str (PySem.Str.ofString "  ")))) (aC (op2 iAdd (cl1 (fun ds => opt (kLen ds)) (aC (rd 4) aN)) (cst (.int 1))) aN))))) sNil) sNil) (sCons (sIf (tst (op2 sEq (rd 0) (cst (.int 5)))) (sCons (sRet (fz (nLst (aC (op2 tAddS (cl1 (fun ds => opt (kStr ds)) (aC (rd 1) aN)) (cst (.str (PySem.Str.ofString "/0")))) (aC (op2 iAdd (cl1 (fun ds => opt (kLen ds)) (aC (cl1 (fun ds => opt (kStr ds)) (aC (rd 1) aN)) aN)) (cst (.int 1))) aN))))) sNil) sNil) (sCons (sRet (fz (nLst (aC (cst (.str (PySem.Str.ofString ""))) (aC (cst (.int 0)) aN))))) sNil)))))))))
def m__law_spoilt : En → Out D := mOf 7 [] b__law_spoilt
theorem sc__law_spoilt : FnScope [(PySem.Str.ofString "_law_choice"), (PySem.Str.ofString "_law_num"), (PySem.Str.ofString "_law_den"), (PySem.Str.ofString "_law_factor"), (PySem.Str.ofString "_law_shown_here"), (PySem.Str.ofString "_law_shared"), (PySem.Str.ofString "_law_text")] [(PySem.Str.ofString "_law_choice"), (PySem.Str.ofString "_law_num"), (PySem.Str.ofString "_law_den"), (PySem.Str.ofString "_law_factor")] (defScope (top 63)) := ⟨rfl, rfl, rfl, by decide +kernel, rfl, by decide +kernel, by decide +kernel⟩
theorem ok__law_spoilt {P : Program} {w : World} {K : PySem.W.Frag} {mg : Str → Option Value} {base h : Heap} (E : Bd K mg h) : Got P w K mg base (T K) d__law_spoilt 3 [(PySem.Str.ofString "_law_choice"), (PySem.Str.ofString "_law_num"), (PySem.Str.ofString "_law_den"), (PySem.Str.ofString "_law_factor")] m__law_spoilt := by
  obtain ⟨fd, F⟩ := E.c.def_ 3 (d := d__law_spoilt)
  obtain ⟨fd__law_shown, F__law_shown, G__law_shown⟩ := ok__law_shown (P := P) (w := w) (base := base) E
  obtain ⟨fd__law_divisor, F__law_divisor, G__law_divisor⟩ := ok__law_divisor (P := P) (w := w) (base := base) E
  have b__law_shown_2 : Dfl K (T K) fd__law_shown [(PySem.Str.ofString "_law_num"), (PySem.Str.ofString "_law_den")] [] := dfl0 F__law_shown fun _ _ _ _ _ _ us hl => match us, hl with | [_, _], _ => rfl
  have b__law_divisor_2 : Dfl K (T K) fd__law_divisor [(PySem.Str.ofString "_law_a"), (PySem.Str.ofString "_law_b")] [] := dfl0 F__law_divisor fun _ _ _ _ _ _ us hl => match us, hl with | [_, _], _ => rfl
  have sc := sc__law_spoilt
  have F' : FunD K (PySem.Str.ofString "_law_spoilt") (PySem.Str.ofString "_law_spoilt") (defArgs (top 63)) (defBody (top 63)) (defScope (top 63)) (d__law_spoilt.dvs K) [] (adr K (.g (PySem.Str.ofString "_law_spoilt"))) fd := F
  have z := @fn_okE P w K mg base _ _ _ _ _ _ _ _ fd (T K) [(PySem.Str.ofString "_law_choice"), (PySem.Str.ofString "_law_num"), (PySem.Str.ofString "_law_den"), (PySem.Str.ofString "_law_factor"), (PySem.Str.ofString "_law_shown_here"), (PySem.Str.ofString "_law_shared"), (PySem.Str.ofString "_law_text")] [(PySem.Str.ofString "_law_choice"), (PySem.Str.ofString "_law_num"), (PySem.Str.ofString "_law_den"), (PySem.Str.ofString "_law_factor")] 2 [] b__law_spoilt F' sc rfl
  have z2 : _ → FnOk P w K mg base (L2.CX P w) 3 (adr K (.g (PySem.Str.ofString "_law_spoilt"))) fd [(PySem.Str.ofString "_law_choice"), (PySem.Str.ofString "_law_num"), (PySem.Str.ofString "_law_den"), (PySem.Str.ofString "_law_factor")] (spM K (T K) 4 m__law_spoilt) := z
  refine ⟨fd, F, z2 ?_⟩
  intro cdv A outer s H Ex X eX hr tk hp
  subst eX
  exact (zs_cons (z_set (i := 4) sc.nd rfl (Or.inl rfl) (pf_call (kf_fn G__law_shown (hr.mono (by decide)) b__law_shown_2 tk) rfl (glo_of E.X E.G E.f7) (keep_of E.f7) (af_cons (pf_v (pv 1)) (af_cons (pf_v (pv 2)) af_nil)))) (zs_cons (z_set (i := 5) sc.nd rfl (Or.inl rfl) (pf_call (kf_fn G__law_divisor (hr.mono (by decide)) b__law_divisor_2 tk) rfl (glo_of E.X E.G E.f5) (keep_of E.f5) (af_cons (pf_v (pv 1)) (af_cons (pf_v (pv 2)) af_nil)))) (zs_cons (z_if (tf_cmp of_eq (pf_v (pv 0)) pf_int (by rfl)) (zs_cons (z_set (i := 6) sc.nd rfl (Or.inl rfl) (pf_op of_addS (pf_op of_addS (pf_callTy cf_str rfl (free_of E.X E.G E.f6) bt_str (af_cons (pf_op of_mul (pf_op of_div (pf_v (pv 1)) (pf_v (pv 5))) (pf_v (pv 3))) af_nil)) pf_str) (pf_callTy cf_str rfl (free_of E.X E.G E.f6) bt_str (af_cons (pf_op of_mul (pf_op of_div (pf_v (pv 2)) (pf_v (pv 5))) (pf_v (pv 3))) af_nil)))) (zs_cons (z_ret (pf_n (pn_lst (af_cons (pf_v (pv 6)) (af_cons (pf_callB cf_len rfl (free_of E.X E.G E.f0) bt_len (af_cons (pf_v (pv 6)) af_nil)) af_nil))))) zs_nil)) zs_nil) (zs_cons (z_if (tf_cmp of_eq (pf_v (pv 0)) pf_int (by rfl)) (zs_cons (z_ret (pf_n (pn_lst (af_cons (pf_op of_addS (pf_callTy cf_str rfl (free_of E.X E.G E.f6) bt_str (af_cons (pf_v (pv 1)) af_nil)) pf_str) (af_cons (pf_op of_add (pf_callB cf_len rfl (free_of E.X E.G E.f0) bt_len (af_cons (pf_callTy cf_str rfl (free_of E.X E.G E.f6) bt_str (af_cons (pf_v (pv 1)) af_nil)) af_nil)) pf_int) af_nil))))) zs_nil) zs_nil) (zs_cons (z_if (tf_cmp of_eq (pf_v (pv 0)) pf_int (by rfl)) (zs_cons (z_if (tf_cmp of_lt (pf_v (pv 1)) pf_int (by rfl)) (zs_cons (z_ret (pf_n (pn_lst (af_cons (pf_op of_addS pf_str (pf_sl (pf_v (pv 4)) (sf_some pf_int) sf_none)) (af_cons pf_int af_nil))))) zs_nil) zs_nil) (zs_cons (z_ret (pf_n (pn_lst (af_cons (pf_op of_addS pf_str (pf_v (pv 4))) (af_cons pf_int af_nil))))) zs_nil)) zs_nil) (zs_cons (z_if (tf_cmp of_eq (pf_v (pv 0)) pf_int (by rfl)) (zs_cons (z_ret (pf_n (pn_lst (af_cons pf_str (af_cons pf_int af_nil))))) zs_nil) zs_nil) (zs_cons (z_if (tf_cmp of_eq (pf_v (pv 0)) pf_int (by rfl)) (zs_cons (z_ret (pf_n (pn_lst (af_cons (pf_op of_addS (pf_v (pv 4)) pf_str) (af_cons (pf_op of_add (pf_callB cf_len rfl (free_of E.X E.G E.f0) bt_len (af_cons (pf_v (pv 4)) af_nil)) pf_int) af_nil))))) zs_nil) zs_nil) (zs_cons (z_if (tf_cmp of_eq (pf_v (pv 0)) pf_int (by rfl)) (zs_cons (z_ret (pf_n (pn_lst (af_cons (pf_op of_addS (pf_callTy cf_str rfl (free_of E.X E.G E.f6) bt_str (af_cons (pf_v (pv 1)) af_nil)) pf_str) (af_cons (pf_op of_add (pf_callB cf_len rfl (free_of E.X E.G E.f0) bt_len (af_cons (pf_callTy cf_str rfl (free_of E.X E.G E.f6) bt_str (af_cons (pf_v (pv 1)) af_nil)) af_nil)) pf_int) af_nil))))) zs_nil) zs_nil) (zs_cons (z_ret (pf_n (pn_lst (af_cons pf_str (af_cons pf_int af_nil))))) zs_nil)))))))))
/-! _law_poly -/
def b__law_poly : En → SOut := (sCons (sSetN 4 (nLst aN)) (sCons (sSet 5 (iNeg (cst (.int 1)))) (sCons (sSet 6 (cst (.int 1))) (sCons (sSet 7 (op2 iAdd (op2 iMod (ixV 0 (rd 1)) (cst (.int 4))) (cst (.int 1)))) (sCons (sFor (itR1 (aC (rd 7) aN)) (gN 8) (sCons (sSet 9 (op2 iSub (op2 iMod (ixV 0 (op2 iAdd (op2 iAdd (rd 1) (cst (.int 1))) (rd 8))) (cst (.int 41))) (cst (.int 20)))) (sCons (sSet 10 (op2 iAdd (op2 iMod (op2 iDiv (ixV 0 (op2 iAdd (op2 iAdd (rd 1) (cst (.int 1))) (rd 8))) (cst (.int 41))) (cst (.int 6))) (cst (.int 1)))) (sCons (sIf (tAnd2 (tst (op2 sEq (rd 8) (op2 iSub (rd 7) (cst (.int 1))))) (tst (op2 sEq (rd 9) (cst (.int 0))))) (sCons (sSet 9 (cst (.int 7))) sNil) sNil) (sCons (sSet 11 (cl1 (fnM 2 [] m__law_shown) (aC (rd 9) (aC (rd 10) aN)))) (sCons (sIf (tAnd2 (tst (op2 sEq (rd 8) (op2 iMod (rd 2) (rd 7)))) (tAnd2 (tst (op2 iGt (vLen (vw 3)) (cst (.int 0)))) (tst (op2 iLt (ixV 3 (cst (.int 0))) (cst (.int 7)))))) (sCons (sSet 12 (ixV 3 (cst (.int 0)))) (sCons (sIf (tAnd2 (tst (op2 sEq (rd 12) (cst (.int 6)))) (tst (op2 sEq (rd 7) (cst (.int 1))))) (sCons (sSet 12 (cst (.int 3))) sNil) sNil) (sCons (sIf (tst (op2 sEq (rd 9) (cst (.int 0)))) (sCons (sSet 9 (cst (.int 3))) sNil) sNil) (sCons (sSet 13 (cl1 (fnM 4 [] m__law_spoilt) (aC (rd 12) (aC (rd 9) (aC (rd 10) (aC (ixV 3 (cst (.int 1))) aN)))))) (sCons (sSet 11 (ix (rd 13) (cst (.int 0)))) (sCons (sSet 5 (op2 iAdd (rd 6) (ix (rd 13) (cst (.int 1))))) sNil)))))) sNil) (sCons (sApp 4 (rd 11)) (sCons (sSet 6 (op2 iAdd (op2 iAdd (rd 6) (cl1 (fun ds => opt (kLen ds)) (aC (rd 11) aN))) (cst (.int 1)))) sNil)))))))) (sCons (sSet 14 (op2 tAddS (op2 tAddS (cst (.str (PySem.Str.ofString "["))) (jnV 4 (cst (.str (PySem.Str.ofString " "))))) (cst (.str (PySem.Str.ofString "]"))))) (sCons (sIf (tAnd2 (tst (op2 iGt (vLen (vw 3)) (cst (.int 0)))) (tst (op2 sEq (ixV 3 (cst (.int 0))) (cst (.int 7))))) (sCons (sSet 14 (op2 tAddS (op2 tAddS (cst (.str (PySem.Str.ofString "["))) (sm1 kJoin (cst (.str (PySem.Str.ofString " "))) (fz (nCatV 4 (nLst (aC (cst (.str (PySem.Str.ofString "0"))) aN)))))) (cst (.str (PySem.Str.ofString "]"))))) (sCons (sSet 5 (cl1 (fun ds => opt (kLen ds)) (aC (rd 14) aN))) sNil)) sNil) (sCons (sRet (fz (nLst (aC (rd 14) (aC (rd 5) aN))))) sNil))))))))
def m__law_poly : En → Out D := mOf 15 [] b__law_poly
theorem sc__law_poly : FnScope [(PySem.Str.ofString "_law_numbers_here"), (PySem.Str.ofString "_law_place"), (PySem.Str.ofString "_law_spot"), (PySem.Str.ofString "_law_spoilt_here"), (PySem.Str.ofString "_law_entries"), (PySem.Str.ofString "_law_where"), (PySem.Str.ofString "_law_length"), (PySem.Str.ofString "_law_size"), (PySem.Str.ofString "_law_i"), (PySem.Str.ofString "_law_num"), (PySem.Str.ofString "_law_den"), (PySem.Str.ofString "_law_shown_here"), (PySem.Str.ofString "_law_choice"), (PySem.Str.ofString "_law_made"), (PySem.Str.ofString "_law_text")] [(PySem.Str.ofString "_law_numbers_here"), (PySem.Str.ofString "_law_place"), (PySem.Str.ofString "_law_spot"), (PySem.Str.ofString "_law_spoilt_here")] (defScope (top 64)) := ⟨rfl, rfl, rfl, by decide +kernel, rfl, by decide +kernel, by decide +kernel⟩
theorem ok__law_poly {P : Program} {w : World} {K : PySem.W.Frag} {mg : Str → Option Value} {base h : Heap} (E : Bd K mg h) : Got P w K mg base (T K) d__law_poly 4 [(PySem.Str.ofString "_law_numbers_here"), (PySem.Str.ofString "_law_place"), (PySem.Str.ofString "_law_spot"), (PySem.Str.ofString "_law_spoilt_here")] m__law_poly := by
  obtain ⟨fd, F⟩ := E.c.def_ 4 (d := d__law_poly)
  obtain ⟨fd__law_shown, F__law_shown, G__law_shown⟩ := ok__law_shown (P := P) (w := w) (base := base) E
  obtain ⟨fd__law_spoilt, F__law_spoilt, G__law_spoilt⟩ := ok__law_spoilt (P := P) (w := w) (base := base) E
  have b__law_shown_2 : Dfl K (T K) fd__law_shown [(PySem.Str.ofString "_law_num"), (PySem.Str.ofString "_law_den")] [] := dfl0 F__law_shown fun _ _ _ _ _ _ us hl => match us, hl with | [_, _], _ => rfl
  have b__law_spoilt_4 : Dfl K (T K) fd__law_spoilt [(PySem.Str.ofString "_law_choice"), (PySem.Str.ofString "_law_num"), (PySem.Str.ofString "_law_den"), (PySem.Str.ofString "_law_factor")] [] := dfl0 F__law_spoilt fun _ _ _ _ _ _ us hl => match us, hl with | [_, _, _, _], _ => rfl
  have sc := sc__law_poly
  have F' : FunD K (PySem.Str.ofString "_law_poly") (PySem.Str.ofString "_law_poly") (defArgs (top 64)) (defBody (top 64)) (defScope (top 64)) (d__law_poly.dvs K) [] (adr K (.g (PySem.Str.ofString "_law_poly"))) fd := F
  have z := @fn_okE P w K mg base _ _ _ _ _ _ _ _ fd (T K) [(PySem.Str.ofString "_law_numbers_here"), (PySem.Str.ofString "_law_place"), (PySem.Str.ofString "_law_spot"), (PySem.Str.ofString "_law_spoilt_here"), (PySem.Str.ofString "_law_entries"), (PySem.Str.ofString "_law_where"), (PySem.Str.ofString "_law_length"), (PySem.Str.ofString "_law_size"), (PySem.Str.ofString "_law_i"), (PySem.Str.ofString "_law_num"), (PySem.Str.ofString "_law_den"), (PySem.Str.ofString "_law_shown_here"), (PySem.Str.ofString "_law_choice"), (PySem.Str.ofString "_law_made"), (PySem.Str.ofString "_law_text")] [(PySem.Str.ofString "_law_numbers_here"), (PySem.Str.ofString "_law_place"), (PySem.Str.ofString "_law_spot"), (PySem.Str.ofString "_law_spoilt_here")] 3 [] b__law_poly F' sc rfl
  have z2 : _ → FnOk P w K mg base (L2.CX P w) 4 (adr K (.g (PySem.Str.ofString "_law_poly"))) fd [(PySem.Str.ofString "_law_numbers_here"), (PySem.Str.ofString "_law_place"), (PySem.Str.ofString "_law_spot"), (PySem.Str.ofString "_law_spoilt_here")] (spM K (T K) 4 m__law_poly) := z
  refine ⟨fd, F, z2 ?_⟩
  intro cdv A outer s H Ex X eX hr tk hp
  subst eX
  exact (zs_cons (z_setN (i := 4) sc.nd rfl (Or.inl rfl) (pn_lst af_nil)) (zs_cons (z_set (i := 5) sc.nd rfl (Or.inl rfl) (pf_neg pf_int)) (zs_cons (z_set (i := 6) sc.nd rfl (Or.inl rfl) pf_int) (zs_cons (z_set (i := 7) sc.nd rfl (Or.inl rfl) (pf_op of_add (pf_op of_mod (pf_ixV (pv 0) (pf_v (pv 1))) pf_int) pf_int)) (zs_cons (z_for hp rfl (if_range1 rfl (free_of E.X E.G E.f1) (af_cons (pf_v (pv 7)) af_nil)) (gf_name (i := 8) sc.nd rfl (Or.inl rfl)) (zs_cons (z_set (i := 9) sc.nd rfl (Or.inl rfl) (pf_op of_sub (pf_op of_mod (pf_ixV (pv 0) (pf_op of_add (pf_op of_add (pf_v (pv 1)) pf_int) (pf_v (pv 8)))) pf_int) pf_int)) (zs_cons (z_set (i := 10) sc.nd rfl (Or.inl rfl) (pf_op of_add (pf_op of_mod (pf_op of_div (pf_ixV (pv 0) (pf_op of_add (pf_op of_add (pf_v (pv 1)) pf_int) (pf_v (pv 8)))) pf_int) pf_int) pf_int)) (zs_cons (z_if (tf_w (wf_and (tf_cmp of_eq (pf_v (pv 8)) (pf_op of_sub (pf_v (pv 7)) pf_int) (by rfl)) (wf_and1 (tf_cmp of_eq (pf_v (pv 9)) pf_int (by rfl))))) (zs_cons (z_set (i := 9) sc.nd rfl (Or.inl rfl) pf_int) zs_nil) zs_nil) (zs_cons (z_set (i := 11) sc.nd rfl (Or.inl rfl) (pf_call (kf_fn G__law_shown (hr.mono (by decide)) b__law_shown_2 tk) rfl (glo_of E.X E.G E.f7) (keep_of E.f7) (af_cons (pf_v (pv 9)) (af_cons (pf_v (pv 10)) af_nil)))) (zs_cons (z_if (tf_w (wf_and (tf_cmp of_eq (pf_v (pv 8)) (pf_op of_mod (pf_v (pv 2)) (pf_v (pv 7))) (by rfl)) (wf_and (tf_cmp of_gt (pf_lenV (vf_v (pv 3)) rfl (free_of E.X E.G E.f0) bt_len) pf_int (by rfl)) (wf_and1 (tf_cmp of_lt (pf_ixV (pv 3) pf_int) pf_int (by rfl)))))) (zs_cons (z_set (i := 12) sc.nd rfl (Or.inl rfl) (pf_ixV (pv 3) pf_int)) (zs_cons (z_if (tf_w (wf_and (tf_cmp of_eq (pf_v (pv 12)) pf_int (by rfl)) (wf_and1 (tf_cmp of_eq (pf_v (pv 7)) pf_int (by rfl))))) (zs_cons (z_set (i := 12) sc.nd rfl (Or.inl rfl) pf_int) zs_nil) zs_nil) (zs_cons (z_if (tf_cmp of_eq (pf_v (pv 9)) pf_int (by rfl)) (zs_cons (z_set (i := 9) sc.nd rfl (Or.inl rfl) pf_int) zs_nil) zs_nil) (zs_cons (z_set (i := 13) sc.nd rfl (Or.inl rfl) (pf_call (kf_fn G__law_spoilt (hr.mono (by decide)) b__law_spoilt_4 tk) rfl (glo_of E.X E.G E.f8) (keep_of E.f8) (af_cons (pf_v (pv 12)) (af_cons (pf_v (pv 9)) (af_cons (pf_v (pv 10)) (af_cons (pf_ixV (pv 3) pf_int) af_nil)))))) (zs_cons (z_set (i := 11) sc.nd rfl (Or.inl rfl) (pf_ix (pf_v (pv 13)) pf_int)) (zs_cons (z_set (i := 5) sc.nd rfl (Or.inl rfl) (pf_op of_add (pf_v (pv 6)) (pf_ix (pf_v (pv 13)) pf_int))) zs_nil)))))) zs_nil) (zs_cons (z_app (pv 4) (pf_v (pv 11))) (zs_cons (z_set (i := 6) sc.nd rfl (Or.inl rfl) (pf_op of_add (pf_op of_add (pf_v (pv 6)) (pf_callB cf_len rfl (free_of E.X E.G E.f0) bt_len (af_cons (pf_v (pv 11)) af_nil))) pf_int)) zs_nil)))))))) (zs_cons (z_set (i := 14) sc.nd rfl (Or.inl rfl) (pf_op of_addS (pf_op of_addS pf_str (pf_joinV pf_str (pv 4))) pf_str)) (zs_cons (z_if (tf_w (wf_and (tf_cmp of_gt (pf_lenV (vf_v (pv 3)) rfl (free_of E.X E.G E.f0) bt_len) pf_int (by rfl)) (wf_and1 (tf_cmp of_eq (pf_ixV (pv 3) pf_int) pf_int (by rfl))))) (zs_cons (z_set (i := 14) sc.nd rfl (Or.inl rfl) (pf_op of_addS (pf_op of_addS pf_str (pf_join pf_str (pf_n (pn_catV (pv 4) (pn_lst (af_cons pf_str af_nil)))))) pf_str)) (zs_cons (z_set (i := 5) sc.nd rfl (Or.inl rfl) (pf_callB cf_len rfl (free_of E.X E.G E.f0) bt_len (af_cons (pf_v (pv 14)) af_nil))) zs_nil)) zs_nil) (zs_cons (z_ret (pf_n (pn_lst (af_cons (pf_v (pv 14)) (af_cons (pf_v (pv 5)) af_nil))))) zs_nil))))))))
/-! write_fraction -/
def b_write_fraction : En → SOut := (sCons (sIf (tst (op2 sEq (fld ft_den (rd 0)) (cst (.int 1)))) (sCons (sRet (cl1 (fun ds => opt (kStr ds)) (aC (fld ft_num (rd 0)) aN))) sNil) sNil) (sCons (sRet (op2 tAddS (op2 tAddS (cl1 (fun ds => opt (kStr ds)) (aC (fld ft_num (rd 0)) aN)) (cst (.str (PySem.Str.ofString "/")))) (cl1 (fun ds => opt (kStr ds)) (aC (fld ft_den (rd 0)) aN)))) sNil))
def m_write_fraction : En → Out D := mOf 1 [] b_write_fraction
theorem sc_write_fraction : FnScope [(PySem.Str.ofString "x")] [(PySem.Str.ofString "x")] (defScope (top 50)) := ⟨rfl, rfl, rfl, by decide +kernel, rfl, by decide +kernel, by decide +kernel⟩
theorem ok_write_fraction {P : Program} {w : World} {K : PySem.W.Frag} {mg : Str → Option Value} {base h : Heap} (E : Bd K mg h) : Got P w K mg base (T K) d_write_fraction 1 [(PySem.Str.ofString "x")] m_write_fraction := by
  obtain ⟨fd, F⟩ := E.c.def_ 5 (d := d_write_fraction)
  have sc := sc_write_fraction
  have F' : FunD K (PySem.Str.ofString "write_fraction") (PySem.Str.ofString "write_fraction") (defArgs (top 50)) (defBody (top 50)) (defScope (top 50)) (d_write_fraction.dvs K) [] (adr K (.g (PySem.Str.ofString "write_fraction"))) fd := F
  have z := @fn_okE P w K mg base _ _ _ _ _ _ _ _ fd (T K) [(PySem.Str.ofString "x")] [(PySem.Str.ofString "x")] 0 [] b_write_fraction F' sc rfl
  have z2 : _ → FnOk P w K mg base (L2.CX P w) 1 (adr K (.g (PySem.Str.ofString "write_fraction"))) fd [(PySem.Str.ofString "x")] (spM K (T K) 1 m_write_fraction) := z
  refine ⟨fd, F, z2 ?_⟩
  intro cdv A outer s H Ex X eX hr tk hp
  subst eX
  exact (zs_cons (z_if (tf_cmp of_eq (pf_fld E.tft_den (pf_v (pv 0))) pf_int (by rfl)) (zs_cons (z_ret (pf_callTy cf_str rfl (free_of E.X E.G E.f6) bt_str (af_cons (pf_fld E.tft_num (pf_v (pv 0))) af_nil))) zs_nil) zs_nil) (zs_cons (z_ret (pf_op of_addS (pf_op of_addS (pf_callTy cf_str rfl (free_of E.X E.G E.f6) bt_str (af_cons (pf_fld E.tft_num (pf_v (pv 0))) af_nil)) pf_str) (pf_callTy cf_str rfl (free_of E.X E.G E.f6) bt_str (af_cons (pf_fld E.tft_den (pf_v (pv 0))) af_nil)))) zs_nil))
/-! Fraction.__init__ -/
def b_FractionD_initD : En → SOut := (sCons (sIf (tst (op2 sEq (rd 2) (cst (.int 0)))) (sCons sEr sNil) sNil) (sCons (sSet 3 (cl1 (fun ds => opt (k2 (fun i j => .int ((Nat.gcd i.natAbs j.natAbs : Nat) : Int)) ds)) (aC (rd 1) (aC (rd 2) aN)))) (sCons (sIf (tst (op2 iLt (rd 2) (cst (.int 0)))) (sCons (sSet 3 (iNeg (rd 3))) sNil) sNil) (sCons (sFldS ft_num 0 (op2 iDiv (rd 1) (rd 3))) (sCons (sFldS ft_den 0 (op2 iDiv (rd 2) (rd 3))) sNil)))))
def m_FractionD_initD : En → Out D := mOf 4 [0] b_FractionD_initD
theorem sc_FractionD_initD : FnScope [(PySem.Str.ofString "self"), (PySem.Str.ofString "num"), (PySem.Str.ofString "den"), (PySem.Str.ofString "divisor")] [(PySem.Str.ofString "self"), (PySem.Str.ofString "num"), (PySem.Str.ofString "den")] (defScope (mem 9 0)) := ⟨rfl, rfl, rfl, by decide +kernel, rfl, by decide +kernel, by decide +kernel⟩
theorem ok_FractionD_initD {P : Program} {w : World} {K : PySem.W.Frag} {mg : Str → Option Value} {base h : Heap} (E : Bd K mg h) : Got P w K mg base (T K) d_FractionD_initD 1 [(PySem.Str.ofString "self"), (PySem.Str.ofString "num"), (PySem.Str.ofString "den")] m_FractionD_initD := by
  obtain ⟨fd, F⟩ := E.c.def_ 6 (d := d_FractionD_initD)
  have sc := sc_FractionD_initD
  have F' : FunD K (PySem.Str.ofString "__init__") (PySem.Str.ofString "Fraction.__init__") (defArgs (mem 9 0)) (defBody (mem 9 0)) (defScope (mem 9 0)) (d_FractionD_initD.dvs K) [] (adr K (.m (PySem.Str.ofString "Fraction") (PySem.Str.ofString "__init__"))) fd := F
  have z := @fn_okE P w K mg base _ _ _ _ _ _ _ _ fd (T K) [(PySem.Str.ofString "self"), (PySem.Str.ofString "num"), (PySem.Str.ofString "den"), (PySem.Str.ofString "divisor")] [(PySem.Str.ofString "self"), (PySem.Str.ofString "num"), (PySem.Str.ofString "den")] 0 [0] b_FractionD_initD F' sc rfl
  have z2 : _ → FnOk P w K mg base (L2.CX P w) 1 (adr K (.m (PySem.Str.ofString "Fraction") (PySem.Str.ofString "__init__"))) fd [(PySem.Str.ofString "self"), (PySem.Str.ofString "num"), (PySem.Str.ofString "den")] (spM K (T K) 3 m_FractionD_initD) := z
  refine ⟨fd, F, z2 ?_⟩
  intro cdv A outer s H Ex X eX hr tk hp
  subst eX
  exact (zs_cons (z_if (tf_cmp of_eq (pf_v (pv 2)) pf_int (by rfl)) (zs_cons z_never zs_nil) zs_nil) (zs_cons (z_set (i := 3) sc.nd rfl (Or.inl rfl) (pf_callG cf_gcd rfl (blt_of E.X E.G E.f18) (af_cons (pf_v (pv 1)) (af_cons (pf_v (pv 2)) af_nil)))) (zs_cons (z_if (tf_cmp of_lt (pf_v (pv 2)) pf_int (by rfl)) (zs_cons (z_set (i := 3) sc.nd rfl (Or.inl rfl) (pf_neg (pf_v (pv 3)))) zs_nil) zs_nil) (zs_cons (z_fld E.tft_num (fun c _ _ => ct_len (by rfl) c) (pv 0) (pf_op of_div (pf_v (pv 1)) (pf_v (pv 3)))) (zs_cons (z_fld E.tft_den (fun c _ _ => ct_len (by rfl) c) (pv 0) (pf_op of_div (pf_v (pv 2)) (pf_v (pv 3)))) zs_nil)))))
/-! Poly.coefficient -/
def b_Poly_coefficient : En → SOut := (sCons (sIf (tst (chn iLe iLt (cst (.int 0)) (rd 1) (cl1 (fun ds => opt (kLen ds)) (aC (fld ft_coefs (rd 0)) aN)))) (sCons (sRet (cl1 (mkM 0 2 3 [] m_FractionD_initD) (aC (ix (fld ft_coefs (rd 0)) (rd 1)) (aC (fld ft_den (rd 0)) aN)))) sNil) sNil) (sCons (sRet (cl1 (mkM 0 2 3 [.int 1] m_FractionD_initD) (aC (cst (.int 0)) aN))) sNil))
def m_Poly_coefficient : En → Out D := mOf 2 [] b_Poly_coefficient
theorem sc_Poly_coefficient : FnScope [(PySem.Str.ofString "self"), (PySem.Str.ofString "index")] [(PySem.Str.ofString "self"), (PySem.Str.ofString "index")] (defScope (mem 13 6)) := ⟨rfl, rfl, rfl, by decide +kernel, rfl, by decide +kernel, by decide +kernel⟩
theorem ok_Poly_coefficient {P : Program} {w : World} {K : PySem.W.Frag} {mg : Str → Option Value} {base h : Heap} (E : Bd K mg h) : Got P w K mg base (T K) d_Poly_coefficient 3 [(PySem.Str.ofString "self"), (PySem.Str.ofString "index")] m_Poly_coefficient := by
  obtain ⟨fd, F⟩ := E.c.def_ 7 (d := d_Poly_coefficient)
  obtain ⟨fd_FractionD_initD, F_FractionD_initD, G_FractionD_initD⟩ := ok_FractionD_initD (P := P) (w := w) (base := base) E
  have b_FractionD_initD_3 : Dfl K (T K) fd_FractionD_initD [(PySem.Str.ofString "self"), (PySem.Str.ofString "num"), (PySem.Str.ofString "den")] [] := dfl1 F_FractionD_initD 3 1 (by intro h; cases h) rfl (fun _ => .nil) fun _ _ _ _ _ _ _ us its hl hi => match us, its, hl, hi with | [_, _, _], [_], _, _ => ⟨_, rfl, rfl⟩
  have b_FractionD_initD_2 : Dfl K (T K) fd_FractionD_initD [(PySem.Str.ofString "self"), (PySem.Str.ofString "num"), (PySem.Str.ofString "den")] [.int 1] := dfl1 F_FractionD_initD 2 0 (by intro h; cases h) rfl (fun _ => .cons (.int _) (.nil)) fun _ _ _ _ _ _ _ us its hl hi => match us, its, hl, hi with | [_, _], [_], _, _ => ⟨_, rfl, rfl⟩
  have sc := sc_Poly_coefficient
  have F' : FunD K (PySem.Str.ofString "coefficient") (PySem.Str.ofString "Poly.coefficient") (defArgs (mem 13 6)) (defBody (mem 13 6)) (defScope (mem 13 6)) (d_Poly_coefficient.dvs K) [] (adr K (.m (PySem.Str.ofString "Poly") (PySem.Str.ofString "coefficient"))) fd := F
  have z := @fn_okE P w K mg base _ _ _ _ _ _ _ _ fd (T K) [(PySem.Str.ofString "self"), (PySem.Str.ofString "index")] [(PySem.Str.ofString "self"), (PySem.Str.ofString "index")] 2 [] b_Poly_coefficient F' sc rfl
  have z2 : _ → FnOk P w K mg base (L2.CX P w) 3 (adr K (.m (PySem.Str.ofString "Poly") (PySem.Str.ofString "coefficient"))) fd [(PySem.Str.ofString "self"), (PySem.Str.ofString "index")] (spM K (T K) 2 m_Poly_coefficient) := z
  refine ⟨fd, F, z2 ?_⟩
  intro cdv A outer s H Ex X eX hr tk hp
  subst eX
  exact (zs_cons (z_if (tf_chn of_le of_lt pf_int (pf_v (pv 1)) (pf_callB cf_len rfl (free_of E.X E.G E.f0) bt_len (af_cons (pf_fld E.tft_coefs (pf_v (pv 0))) af_nil))) (zs_cons (z_ret (pf_call (kf_mk (mk_of (c := 0) rfl E.f19) G_FractionD_initD (hr.mono (by decide)) b_FractionD_initD_3 tk) rfl (glo_of E.X E.G E.f20) (keep_of E.f20) (af_cons (pf_ix (pf_fld E.tft_coefs (pf_v (pv 0))) (pf_v (pv 1))) (af_cons (pf_fld E.tft_den (pf_v (pv 0))) af_nil)))) zs_nil) zs_nil) (zs_cons (z_ret (pf_call (kf_mk (mk_of (c := 0) rfl E.f19) G_FractionD_initD (hr.mono (by decide)) b_FractionD_initD_2 tk) rfl (glo_of E.X E.G E.f20) (keep_of E.f20) (af_cons pf_int af_nil))) zs_nil))
/-! write_poly -/
def b_write_poly : En → SOut := (sCons (sRet (op2 tAddS (op2 tAddS (cst (.str (PySem.Str.ofString "["))) (sm1 kJoin (cst (.str (PySem.Str.ofString " "))) (fz (nLc (itR1 (aC (cl1 (fun ds => opt (kLen ds)) (aC (fld ft_coefs (rd 0)) aN)) aN)) (gN 1) always (cl1 (fnM 1 [] m_write_fraction) (aC (mt 1 (fnM 2 [] m_Poly_coefficient) (rd 0) (aC (rd 1) aN)) aN)) [1])))) (cst (.str (PySem.Str.ofString "]"))))) sNil)
def m_write_poly : En → Out D := mOf 2 [] b_write_poly
theorem sc_write_poly : FnScope [(PySem.Str.ofString "p"), (PySem.Str.ofString "i")] [(PySem.Str.ofString "p")] (defScope (top 53)) := ⟨rfl, rfl, rfl, by decide +kernel, rfl, by decide +kernel, by decide +kernel⟩
theorem ok_write_poly {P : Program} {w : World} {K : PySem.W.Frag} {mg : Str → Option Value} {base h : Heap} (E : Bd K mg h) : Got P w K mg base (T K) d_write_poly 4 [(PySem.Str.ofString "p")] m_write_poly := by
  obtain ⟨fd, F⟩ := E.c.def_ 8 (d := d_write_poly)
  obtain ⟨fd_write_fraction, F_write_fraction, G_write_fraction⟩ := ok_write_fraction (P := P) (w := w) (base := base) E
  obtain ⟨fd_Poly_coefficient, F_Poly_coefficient, G_Poly_coefficient⟩ := ok_Poly_coefficient (P := P) (w := w) (base := base) E
  have b_write_fraction_1 : Dfl K (T K) fd_write_fraction [(PySem.Str.ofString "x")] [] := dfl0 F_write_fraction fun _ _ _ _ _ _ us hl => match us, hl with | [_], _ => rfl
  have b_Poly_coefficient_2 : Dfl K (T K) fd_Poly_coefficient [(PySem.Str.ofString "self"), (PySem.Str.ofString "index")] [] := dfl0 F_Poly_coefficient fun _ _ _ _ _ _ us hl => match us, hl with | [_, _], _ => rfl
  have sc := sc_write_poly
  have F' : FunD K (PySem.Str.ofString "write_poly") (PySem.Str.ofString "write_poly") (defArgs (top 53)) (defBody (top 53)) (defScope (top 53)) (d_write_poly.dvs K) [] (adr K (.g (PySem.Str.ofString "write_poly"))) fd := F
  have z := @fn_okE P w K mg base _ _ _ _ _ _ _ _ fd (T K) [(PySem.Str.ofString "p"), (PySem.Str.ofString "i")] [(PySem.Str.ofString "p")] 3 [] b_write_poly F' sc rfl
  have z2 : _ → FnOk P w K mg base (L2.CX P w) 4 (adr K (.g (PySem.Str.ofString "write_poly"))) fd [(PySem.Str.ofString "p")] (spM K (T K) 1 m_write_poly) := z
  refine ⟨fd, F, z2 ?_⟩
  intro cdv A outer s H Ex X eX hr tk hp
  subst eX
  exact (zs_cons (z_ret (pf_op of_addS (pf_op of_addS pf_str (pf_join pf_str (pf_n (pn_lc0 rfl sc.nd (if_range1 rfl (free_of E.X E.G E.f1) (af_cons (pf_callB cf_len rfl (free_of E.X E.G E.f0) bt_len (af_cons (pf_fld E.tft_coefs (pf_v (pv 0))) af_nil)) af_nil)) (blkOk_by (own := [((PySem.Str.ofString "i"), 1)]) (by kernel_rfl)) (fun _ _ _ _ _ => (gf_name (i := 1) sc.nd rfl (Or.inl rfl))) (fun _ _ _ _ _ => (pf_call (kf_fn G_write_fraction (hr.mono (by decide)) b_write_fraction_1 takes_no) rfl (glo_of E.X E.G E.f22) (keep_of E.f22) (af_cons (pf_mt (mt_of (c := 1) rfl E.f10 E.f21) (kf_fn G_Poly_coefficient (hr.mono (by decide)) b_Poly_coefficient_2 takes_no) (pf_v (pv 0)) (af_cons (pf_v (pv 1)) af_nil)) af_nil))))))) pf_str)) zs_nil)
/-! write_operator -/
def b_write_operator : En → SOut := (sCons (sRet (op2 tAddS (op2 tAddS (cst (.str (PySem.Str.ofString "<"))) (sm1 kJoin (cst (.str (PySem.Str.ofString " "))) (fz (nLc (itA (fld ft_coefs (rd 0))) (gN 1) always (cl1 (fnM 1 [] m_write_poly) (aC (rd 1) aN)) [1])))) (cst (.str (PySem.Str.ofString ">"))))) sNil)
def m_write_operator : En → Out D := mOf 2 [] b_write_operator
theorem sc_write_operator : FnScope [(PySem.Str.ofString "operator"), (PySem.Str.ofString "p")] [(PySem.Str.ofString "operator")] (defScope (top 55)) := ⟨rfl, rfl, rfl, by decide +kernel, rfl, by decide +kernel, by decide +kernel⟩
theorem ok_write_operator {P : Program} {w : World} {K : PySem.W.Frag} {mg : Str → Option Value} {base h : Heap} (E : Bd K mg h) : Got P w K mg base (T K) d_write_operator 5 [(PySem.Str.ofString "operator")] m_write_operator := by
  obtain ⟨fd, F⟩ := E.c.def_ 9 (d := d_write_operator)
  obtain ⟨fd_write_poly, F_write_poly, G_write_poly⟩ := ok_write_poly (P := P) (w := w) (base := base) E
  have b_write_poly_1 : Dfl K (T K) fd_write_poly [(PySem.Str.ofString "p")] [] := dfl0 F_write_poly fun _ _ _ _ _ _ us hl => match us, hl with | [_], _ => rfl
  have sc := sc_write_operator
  have F' : FunD K (PySem.Str.ofString "write_operator") (PySem.Str.ofString "write_operator") (defArgs (top 55)) (defBody (top 55)) (defScope (top 55)) (d_write_operator.dvs K) [] (adr K (.g (PySem.Str.ofString "write_operator"))) fd := F
  have z := @fn_okE P w K mg base _ _ _ _ _ _ _ _ fd (T K) [(PySem.Str.ofString "operator"), (PySem.Str.ofString "p")] [(PySem.Str.ofString "operator")] 4 [] b_write_operator F' sc rfl
  have z2 : _ → FnOk P w K mg base (L2.CX P w) 5 (adr K (.g (PySem.Str.ofString "write_operator"))) fd [(PySem.Str.ofString "operator")] (spM K (T K) 1 m_write_operator) := z
  refine ⟨fd, F, z2 ?_⟩
  intro cdv A outer s H Ex X eX hr tk hp
  subst eX
  exact (zs_cons (z_ret (pf_op of_addS (pf_op of_addS pf_str (pf_join pf_str (pf_n (pn_lc0 rfl sc.nd (if_any (pf_fld E.tft_coefs (pf_v (pv 0)))) (blkOk_by (own := [((PySem.Str.ofString "p"), 1)]) (by kernel_rfl)) (fun _ _ _ _ _ => (gf_name (i := 1) sc.nd rfl (Or.inl rfl))) (fun _ _ _ _ _ => (pf_call (kf_fn G_write_poly (hr.mono (by decide)) b_write_poly_1 takes_no) rfl (glo_of E.X E.G E.f23) (keep_of E.f23) (af_cons (pf_v (pv 1)) af_nil))))))) pf_str)) zs_nil)
/-! write_certificate -/
def b_write_certificate : En → SOut := (sCons (sSet 1 (ix (rd 0) (cst (.int 0)))) (sCons (sIf (tst (op2 sEq (rd 1) (cst (.str (PySem.Str.ofString "closed"))))) (sCons sEr sNil) sNil) (sCons (sIf (tst (op2 sEq (rd 1) (cst (.str (PySem.Str.ofString "open"))))) (sCons sEr sNil) sNil) (sCons (sIf (tst (op2 sEq (rd 1) (cst (.str (PySem.Str.ofString "recurrence"))))) (sCons (sAsg (rd 0) (gT 4 (gsC (gN 2) (gsC (gN 3) (gsC (gN 4) (gsC (gN 5) gsN)))))) (sCons sEr sNil)) sNil) (sCons (sIf (tst (op2 sEq (rd 1) (cst (.str (PySem.Str.ofString "none"))))) (sCons sEr sNil) sNil) (sCons (sIf (tst (op2 sEq (rd 1) (cst (.str (PySem.Str.ofString "equal"))))) (sCons (sRet (op2 tAddS (op2 tAddS (op2 tAddS (cst (.str (PySem.Str.ofString "equal "))) (cl1 (fnM 1 [] m_write_operator) (aC (ix (rd 0) (cst (.int 1))) aN))) (cst (.str (PySem.Str.ofString " ")))) (cl1 (fnM 1 [] m_write_operator) (aC (ix (rd 0) (cst (.int 2))) aN)))) sNil) sNil) (sCons (sRet (op2 tAddS (cst (.str (PySem.Str.ofString "different "))) (cl1 (fun ds => opt (kStr ds)) (aC (ix (rd 0) (cst (.int 1))) aN)))) sNil)))))))
def m_write_certificate : En → Out D := mOf 6 [] b_write_certificate
theorem sc_write_certificate : FnScope [(PySem.Str.ofString "certificate"), (PySem.Str.ofString "kind"), (PySem.Str.ofString "_"), (PySem.Str.ofString "order"), (PySem.Str.ofString "operator"), (PySem.Str.ofString "m")] [(PySem.Str.ofString "certificate")] (defScope (top 58)) := ⟨rfl, rfl, rfl, by decide +kernel, rfl, by decide +kernel, by decide +kernel⟩
theorem ok_write_certificate {P : Program} {w : World} {K : PySem.W.Frag} {mg : Str → Option Value} {base h : Heap} (E : Bd K mg h) : Got P w K mg base (T K) d_write_certificate 6 [(PySem.Str.ofString "certificate")] m_write_certificate := by
  obtain ⟨fd, F⟩ := E.c.def_ 10 (d := d_write_certificate)
  obtain ⟨fd_write_operator, F_write_operator, G_write_operator⟩ := ok_write_operator (P := P) (w := w) (base := base) E
  have b_write_operator_1 : Dfl K (T K) fd_write_operator [(PySem.Str.ofString "operator")] [] := dfl0 F_write_operator fun _ _ _ _ _ _ us hl => match us, hl with | [_], _ => rfl
  have sc := sc_write_certificate
  have F' : FunD K (PySem.Str.ofString "write_certificate") (PySem.Str.ofString "write_certificate") (defArgs (top 58)) (defBody (top 58)) (defScope (top 58)) (d_write_certificate.dvs K) [] (adr K (.g (PySem.Str.ofString "write_certificate"))) fd := F
  have z := @fn_okE P w K mg base _ _ _ _ _ _ _ _ fd (T K) [(PySem.Str.ofString "certificate"), (PySem.Str.ofString "kind"), (PySem.Str.ofString "_"), (PySem.Str.ofString "order"), (PySem.Str.ofString "operator"), (PySem.Str.ofString "m")] [(PySem.Str.ofString "certificate")] 5 [] b_write_certificate F' sc rfl
  have z2 : _ → FnOk P w K mg base (L2.CX P w) 6 (adr K (.g (PySem.Str.ofString "write_certificate"))) fd [(PySem.Str.ofString "certificate")] (spM K (T K) 1 m_write_certificate) := z
  refine ⟨fd, F, z2 ?_⟩
  intro cdv A outer s H Ex X eX hr tk hp
  subst eX
  exact (zs_cons (z_set (i := 1) sc.nd rfl (Or.inl rfl) (pf_ix (pf_v (pv 0)) pf_int)) (zs_cons (z_if (tf_cmp of_eq (pf_v (pv 1)) pf_str (by rfl)) (zs_cons z_never zs_nil) zs_nil) (zs_cons (z_if (tf_cmp of_eq (pf_v (pv 1)) pf_str (by rfl)) (zs_cons z_never zs_nil) zs_nil) (zs_cons (z_if (tf_cmp of_eq (pf_v (pv 1)) pf_str (by rfl)) (zs_cons (z_asg (pf_v (pv 0)) (gf_tup rfl (gfs_cons (gf_name (i := 2) sc.nd rfl (Or.inl rfl)) (gfs_cons (gf_name (i := 3) sc.nd rfl (Or.inl rfl)) (gfs_cons (gf_name (i := 4) sc.nd rfl (Or.inl rfl)) (gfs_cons (gf_name (i := 5) sc.nd rfl (Or.inl rfl)) gfs_nil)))))) (zs_cons z_never zs_nil)) zs_nil) (zs_cons (z_if (tf_cmp of_eq (pf_v (pv 1)) pf_str (by rfl)) (zs_cons z_never zs_nil) zs_nil) (zs_cons (z_if (tf_cmp of_eq (pf_v (pv 1)) pf_str (by rfl)) (zs_cons (z_ret (pf_op of_addS (pf_op of_addS (pf_op of_addS pf_str (pf_call (kf_fn G_write_operator (hr.mono (by decide)) b_write_operator_1 tk) rfl (glo_of E.X E.G E.f24) (keep_of E.f24) (af_cons (pf_ix (pf_v (pv 0)) pf_int) af_nil))) pf_str) (pf_call (kf_fn G_write_operator (hr.mono (by decide)) b_write_operator_1 tk) rfl (glo_of E.X E.G E.f24) (keep_of E.f24) (af_cons (pf_ix (pf_v (pv 0)) pf_int) af_nil)))) zs_nil) zs_nil) (zs_cons (z_ret (pf_op of_addS pf_str (pf_callTy cf_str rfl (free_of E.X E.G E.f6) bt_str (af_cons (pf_ix (pf_v (pv 0)) pf_int) af_nil)))) zs_nil)))))))
/-! Cursor.__init__ -/
def b_CursorD_initD : En → SOut := (sCons (sFldS ft_text 0 (rd 1)) (sCons (sFldS ft_place 0 (cst (.int 0))) sNil))
def m_CursorD_initD : En → Out D := mOf 2 [0] b_CursorD_initD
theorem sc_CursorD_initD : FnScope [(PySem.Str.ofString "self"), (PySem.Str.ofString "text")] [(PySem.Str.ofString "self"), (PySem.Str.ofString "text")] (defScope (mem 29 0)) := ⟨rfl, rfl, rfl, by decide +kernel, rfl, by decide +kernel, by decide +kernel⟩
theorem ok_CursorD_initD {P : Program} {w : World} {K : PySem.W.Frag} {mg : Str → Option Value} {base h : Heap} (E : Bd K mg h) : Got P w K mg base (T K) d_CursorD_initD 1 [(PySem.Str.ofString "self"), (PySem.Str.ofString "text")] m_CursorD_initD := by
  obtain ⟨fd, F⟩ := E.c.def_ 11 (d := d_CursorD_initD)
  have sc := sc_CursorD_initD
  have F' : FunD K (PySem.Str.ofString "__init__") (PySem.Str.ofString "Cursor.__init__") (defArgs (mem 29 0)) (defBody (mem 29 0)) (defScope (mem 29 0)) (d_CursorD_initD.dvs K) [] (adr K (.m (PySem.Str.ofString "Cursor") (PySem.Str.ofString "__init__"))) fd := F
  have z := @fn_okE P w K mg base _ _ _ _ _ _ _ _ fd (T K) [(PySem.Str.ofString "self"), (PySem.Str.ofString "text")] [(PySem.Str.ofString "self"), (PySem.Str.ofString "text")] 0 [0] b_CursorD_initD F' sc rfl
  have z2 : _ → FnOk P w K mg base (L2.CX P w) 1 (adr K (.m (PySem.Str.ofString "Cursor") (PySem.Str.ofString "__init__"))) fd [(PySem.Str.ofString "self"), (PySem.Str.ofString "text")] (spM K (T K) 2 m_CursorD_initD) := z
  refine ⟨fd, F, z2 ?_⟩
  intro cdv A outer s H Ex X eX hr tk hp
  subst eX
  exact (zs_cons (z_fld E.tft_text (fun c _ _ => ct_len (by rfl) c) (pv 0) (pf_v (pv 1))) (zs_cons (z_fld E.tft_place (fun c _ _ => ct_len (by rfl) c) (pv 0) pf_int) zs_nil))
/-! Cursor.ahead -/
def b_Cursor_ahead : En → SOut := (sCons (sRet (sl3 (fldV ft_text 0) (isP (fldV ft_place 0)) (isP (op2 iAdd (fldV ft_place 0) (cst (.int 1)))))) sNil)
def m_Cursor_ahead : En → Out D := mOf 1 [0] b_Cursor_ahead
theorem sc_Cursor_ahead : FnScope [(PySem.Str.ofString "self")] [(PySem.Str.ofString "self")] (defScope (mem 29 1)) := ⟨rfl, rfl, rfl, by decide +kernel, rfl, by decide +kernel, by decide +kernel⟩
theorem ok_Cursor_ahead {P : Program} {w : World} {K : PySem.W.Frag} {mg : Str → Option Value} {base h : Heap} (E : Bd K mg h) : Got P w K mg base (T K) d_Cursor_ahead 1 [(PySem.Str.ofString "self")] m_Cursor_ahead := by
  obtain ⟨fd, F⟩ := E.c.def_ 12 (d := d_Cursor_ahead)
  have sc := sc_Cursor_ahead
  have F' : FunD K (PySem.Str.ofString "ahead") (PySem.Str.ofString "Cursor.ahead") (defArgs (mem 29 1)) (defBody (mem 29 1)) (defScope (mem 29 1)) (d_Cursor_ahead.dvs K) [] (adr K (.m (PySem.Str.ofString "Cursor") (PySem.Str.ofString "ahead"))) fd := F
  have z := @fn_okE P w K mg base _ _ _ _ _ _ _ _ fd (T K) [(PySem.Str.ofString "self")] [(PySem.Str.ofString "self")] 0 [0] b_Cursor_ahead F' sc rfl
  have z2 : _ → FnOk P w K mg base (L2.CX P w) 1 (adr K (.m (PySem.Str.ofString "Cursor") (PySem.Str.ofString "ahead"))) fd [(PySem.Str.ofString "self")] (spM K (T K) 1 m_Cursor_ahead) := z
  refine ⟨fd, F, z2 ?_⟩
  intro cdv A outer s H Ex X eX hr tk hp
  subst eX
  exact (zs_cons (z_ret (pf_sl (pf_fldV E.tft_text (pv 0)) (sf_some (pf_fldV E.tft_place (pv 0))) (sf_some (pf_op of_add (pf_fldV E.tft_place (pv 0)) pf_int)))) zs_nil)
/-! InvalidText.__init__ -/
theorem sc_InvalidTextD_initD : FnScope [(PySem.Str.ofString "self"), (PySem.Str.ofString "where")] [(PySem.Str.ofString "self"), (PySem.Str.ofString "where")] (defScope (mem 7 0)) := ⟨rfl, rfl, rfl, by decide +kernel, rfl, by decide +kernel, by decide +kernel⟩
theorem ok_InvalidTextD_initD {P : Program} {w : World} {K : PySem.W.Frag} {mg : Str → Option Value} {base h : Heap} (E : Bd K mg h) : ∃ fd, (d_InvalidTextD_initD).Ok K fd ∧ FnOk P w K mg base (L2.CX P w) 1 (He.ma K (He.ga K (PySem.Str.ofString "InvalidText")) (PySem.Str.ofString "__init__")) fd [(PySem.Str.ofString "self"), (PySem.Str.ofString "where")] (spXI (He.ga K (PySem.Str.ofString "InvalidText")) (PySem.Str.ofString "where")) := by
  obtain ⟨fd, F⟩ := E.c.def_ 13 (d := d_InvalidTextD_initD)
  have F' : FunD K (PySem.Str.ofString "__init__") (PySem.Str.ofString "InvalidText.__init__") (defArgs (mem 7 0)) (defBody (mem 7 0)) (defScope (mem 7 0)) [] [] (adr K (.m (PySem.Str.ofString "InvalidText") (PySem.Str.ofString "__init__"))) fd := F
  exact ⟨fd, F, xi_ok F' sc_InvalidTextD_initD rfl rfl rfl (by first | exact Or.inl rfl | exact Or.inr (Or.inl rfl) | exact Or.inr (Or.inr rfl)) (by first | exact Or.inl rfl | exact Or.inr (Or.inl rfl) | exact Or.inr (Or.inr rfl)) (oex_ok E.f31) (xno_of E.f32)⟩
/-! Cursor.refuse -/
def b_Cursor_refuse : En → SOut := (sCons (sRaise 4 (fldV ft_place 0)) sNil)
def m_Cursor_refuse : En → Out D := mOf 1 [0] b_Cursor_refuse
theorem sc_Cursor_refuse : FnScope [(PySem.Str.ofString "self")] [(PySem.Str.ofString "self")] (defScope (mem 29 2)) := ⟨rfl, rfl, rfl, by decide +kernel, rfl, by decide +kernel, by decide +kernel⟩
theorem ok_Cursor_refuse {P : Program} {w : World} {K : PySem.W.Frag} {mg : Str → Option Value} {base h : Heap} (E : Bd K mg h) : Got P w K mg base (T K) d_Cursor_refuse 3 [(PySem.Str.ofString "self")] m_Cursor_refuse := by
  obtain ⟨fd, F⟩ := E.c.def_ 14 (d := d_Cursor_refuse)
  obtain ⟨fd_InvalidTextD_initD, F_InvalidTextD_initD, G_InvalidTextD_initD⟩ := ok_InvalidTextD_initD (P := P) (w := w) (base := base) E
  have bx_InvalidText : Binds K fd_InvalidTextD_initD [(PySem.Str.ofString "self"), (PySem.Str.ofString "where")] [] := FunD.bindsN F_InvalidTextD_initD fun _ _ _ _ _ _ us hl => match us, hl with | [_, _], _ => rfl
  have sc := sc_Cursor_refuse
  have F' : FunD K (PySem.Str.ofString "refuse") (PySem.Str.ofString "Cursor.refuse") (defArgs (mem 29 2)) (defBody (mem 29 2)) (defScope (mem 29 2)) (d_Cursor_refuse.dvs K) [] (adr K (.m (PySem.Str.ofString "Cursor") (PySem.Str.ofString "refuse"))) fd := F
  have z := @fn_okE P w K mg base _ _ _ _ _ _ _ _ fd (T K) [(PySem.Str.ofString "self")] [(PySem.Str.ofString "self")] 2 [0] b_Cursor_refuse F' sc rfl
  have z2 : _ → FnOk P w K mg base (L2.CX P w) 3 (adr K (.m (PySem.Str.ofString "Cursor") (PySem.Str.ofString "refuse"))) fd [(PySem.Str.ofString "self")] (spM K (T K) 1 m_Cursor_refuse) := z
  refine ⟨fd, F, z2 ?_⟩
  intro cdv A outer s H Ex X eX hr tk hp
  subst eX
  exact (zs_cons (z_raise (xc_of (Cs := cls) (c := 4) rfl E.f31 E.f32 G_InvalidTextD_initD bx_InvalidText) rfl (hr.mono (by decide)) tk rfl (glo_of E.X E.G E.f33) (pf_fldV E.tft_place (pv 0))) zs_nil)
/-! Cursor.take_word -/
def b_Cursor_take_word : En → SOut := (sCons (sSet 2 (cst (.str (PySem.Str.ofString "")))) (sCons (whL (tOr2 (tst (op2 tNotInT (rd 2) (rd 1))) (tst (op2 sNe (mtO 3 0 1 m_Cursor_ahead oN) (cst (.str (PySem.Str.ofString " ")))))) (sCons (sSet 3 (op2 tAddS (rd 2) (mtO 3 0 1 m_Cursor_ahead oN))) (sCons (sIf (tOr2 (tst (op2 sEq (rd 3) (rd 2))) (tst (op2 sEq (cl1 (fun ds => opt (kLen ds)) (aC (fz (nLc (itA (rd 1)) (gN 4) (tst (sm1 kStarts (rd 4) (rd 3))) (rd 4) [4])) aN)) (cst (.int 0))))) (sCons (sExpr (mtO 3 0 1 m_Cursor_refuse oN)) sNil) sNil) (sCons (sSet 2 (rd 3)) (sCons (sFldA ft_place 0 (fun i j => i + j) (cst (.int 1))) sNil)))) 1000000000) (sCons (sFldA ft_place 0 (fun i j => i + j) (cst (.int 1))) (sCons (sRet (rd 2)) sNil))))
def m_Cursor_take_word : En → Out D := mOf 5 [0] b_Cursor_take_word
theorem sc_Cursor_take_word : FnScope [(PySem.Str.ofString "self"), (PySem.Str.ofString "words"), (PySem.Str.ofString "word"), (PySem.Str.ofString "longer"), (PySem.Str.ofString "one")] [(PySem.Str.ofString "self"), (PySem.Str.ofString "words")] (defScope (mem 29 4)) := ⟨rfl, rfl, rfl, by decide +kernel, rfl, by decide +kernel, by decide +kernel⟩
theorem ok_Cursor_take_word {P : Program} {w : World} {K : PySem.W.Frag} {mg : Str → Option Value} {base h : Heap} (E : Bd K mg h) : Got P w K mg base (T K) d_Cursor_take_word 4 [(PySem.Str.ofString "self"), (PySem.Str.ofString "words")] m_Cursor_take_word := by
  obtain ⟨fd, F⟩ := E.c.def_ 15 (d := d_Cursor_take_word)
  obtain ⟨fd_Cursor_ahead, F_Cursor_ahead, G_Cursor_ahead⟩ := ok_Cursor_ahead (P := P) (w := w) (base := base) E
  obtain ⟨fd_Cursor_refuse, F_Cursor_refuse, G_Cursor_refuse⟩ := ok_Cursor_refuse (P := P) (w := w) (base := base) E
  have b_Cursor_ahead_1 : Dfl K (T K) fd_Cursor_ahead [(PySem.Str.ofString "self")] [] := dfl0 F_Cursor_ahead fun _ _ _ _ _ _ us hl => match us, hl with | [_], _ => rfl
  have b_Cursor_refuse_1 : Dfl K (T K) fd_Cursor_refuse [(PySem.Str.ofString "self")] [] := dfl0 F_Cursor_refuse fun _ _ _ _ _ _ us hl => match us, hl with | [_], _ => rfl
  have sc := sc_Cursor_take_word
  have F' : FunD K (PySem.Str.ofString "take_word") (PySem.Str.ofString "Cursor.take_word") (defArgs (mem 29 4)) (defBody (mem 29 4)) (defScope (mem 29 4)) (d_Cursor_take_word.dvs K) [] (adr K (.m (PySem.Str.ofString "Cursor") (PySem.Str.ofString "take_word"))) fd := F
  have z := @fn_okE P w K mg base _ _ _ _ _ _ _ _ fd (T K) [(PySem.Str.ofString "self"), (PySem.Str.ofString "words"), (PySem.Str.ofString "word"), (PySem.Str.ofString "longer"), (PySem.Str.ofString "one")] [(PySem.Str.ofString "self"), (PySem.Str.ofString "words")] 3 [0] b_Cursor_take_word F' sc rfl
  have z2 : _ → FnOk P w K mg base (L2.CX P w) 4 (adr K (.m (PySem.Str.ofString "Cursor") (PySem.Str.ofString "take_word"))) fd [(PySem.Str.ofString "self"), (PySem.Str.ofString "words")] (spM K (T K) 2 m_Cursor_take_word) := z
  refine ⟨fd, F, z2 ?_⟩
  intro cdv A outer s H Ex X eX hr tk hp
  subst eX
  exact (zs_cons (z_set (i := 2) sc.nd rfl (Or.inl rfl) pf_str) (zs_cons (z_while 1000000000 hp (tf_w (wf_or (tf_cmp of_notInT (pf_v (pv 2)) (pf_v (pv 1)) (by rfl)) (wf_or1 (tf_cmp of_ne (pf_mtO0 (mt_of (c := 3) rfl E.f25 E.f30) G_Cursor_ahead (hr.mono (by decide)) b_Cursor_ahead_1 tk (pv 0)) pf_str (by rfl))))) (zs_cons (z_set (i := 3) sc.nd rfl (Or.inr rfl) (pf_op of_addS (pf_v (pv 2)) (pf_mtO0 (mt_of (c := 3) rfl E.f25 E.f30) G_Cursor_ahead (hr.mono (by decide)) b_Cursor_ahead_1 tk (pv 0)))) (zs_cons (z_if (tf_w (wf_or (tf_cmp of_eq (pf_v (pv 3)) (pf_v (pv 2)) (by rfl)) (wf_or1 (tf_cmp of_eq (pf_callB cf_len rfl (free_of E.X E.G E.f0) bt_len (af_cons (pf_n (pn_lc1 rfl sc.nd (if_any (pf_v (pv 1))) (blkOk_by (own := [((PySem.Str.ofString "one"), 4)]) (by kernel_rfl)) (fun _ _ _ _ _ => (gf_name (i := 4) sc.nd rfl (Or.inl rfl))) (fun _ _ _ _ _ => (tf_val (pf_starts (pf_v (pv 4)) (pf_v (pv 3))))) (fun _ _ _ _ _ => (pf_v (pv 4))))) af_nil)) pf_int (by rfl))))) (zs_cons (z_expr (pf_mtO0 (mt_of (c := 3) rfl E.f25 E.f34) G_Cursor_refuse (hr.mono (by decide)) b_Cursor_refuse_1 tk (pv 0))) zs_nil) zs_nil) (zs_cons (z_set (i := 2) sc.nd rfl (Or.inl rfl) (pf_v (pv 3))) (zs_cons (z_fldA in_add E.tft_place (fun c _ _ => ct_len (by rfl) c) (pv 0) pf_int) zs_nil))))) (zs_cons (z_fldA in_add E.tft_place (fun c _ _ => ct_len (by rfl) c) (pv 0) pf_int) (zs_cons (z_ret (pf_v (pv 2))) zs_nil))))
/-! Cursor.take -/
def b_Cursor_take : En → SOut := (sCons (sFor (itS (rd 1)) (gN 2) (sCons (sIf (tst (op2 sNe (mtO 3 0 1 m_Cursor_ahead oN) (rd 2))) (sCons (sExpr (mtO 3 0 1 m_Cursor_refuse oN)) sNil) sNil) (sCons (sFldA ft_place 0 (fun i j => i + j) (cst (.int 1))) sNil))) sNil)
def m_Cursor_take : En → Out D := mOf 3 [0] b_Cursor_take
theorem sc_Cursor_take : FnScope [(PySem.Str.ofString "self"), (PySem.Str.ofString "chars"), (PySem.Str.ofString "char")] [(PySem.Str.ofString "self"), (PySem.Str.ofString "chars")] (defScope (mem 29 3)) := ⟨rfl, rfl, rfl, by decide +kernel, rfl, by decide +kernel, by decide +kernel⟩
theorem ok_Cursor_take {P : Program} {w : World} {K : PySem.W.Frag} {mg : Str → Option Value} {base h : Heap} (E : Bd K mg h) : Got P w K mg base (T K) d_Cursor_take 4 [(PySem.Str.ofString "self"), (PySem.Str.ofString "chars")] m_Cursor_take := by
  obtain ⟨fd, F⟩ := E.c.def_ 16 (d := d_Cursor_take)
  obtain ⟨fd_Cursor_ahead, F_Cursor_ahead, G_Cursor_ahead⟩ := ok_Cursor_ahead (P := P) (w := w) (base := base) E
  obtain ⟨fd_Cursor_refuse, F_Cursor_refuse, G_Cursor_refuse⟩ := ok_Cursor_refuse (P := P) (w := w) (base := base) E
  have b_Cursor_ahead_1 : Dfl K (T K) fd_Cursor_ahead [(PySem.Str.ofString "self")] [] := dfl0 F_Cursor_ahead fun _ _ _ _ _ _ us hl => match us, hl with | [_], _ => rfl
  have b_Cursor_refuse_1 : Dfl K (T K) fd_Cursor_refuse [(PySem.Str.ofString "self")] [] := dfl0 F_Cursor_refuse fun _ _ _ _ _ _ us hl => match us, hl with | [_], _ => rfl
  have sc := sc_Cursor_take
  have F' : FunD K (PySem.Str.ofString "take") (PySem.Str.ofString "Cursor.take") (defArgs (mem 29 3)) (defBody (mem 29 3)) (defScope (mem 29 3)) (d_Cursor_take.dvs K) [] (adr K (.m (PySem.Str.ofString "Cursor") (PySem.Str.ofString "take"))) fd := F
  have z := @fn_okE P w K mg base _ _ _ _ _ _ _ _ fd (T K) [(PySem.Str.ofString "self"), (PySem.Str.ofString "chars"), (PySem.Str.ofString "char")] [(PySem.Str.ofString "self"), (PySem.Str.ofString "chars")] 3 [0] b_Cursor_take F' sc rfl
  have z2 : _ → FnOk P w K mg base (L2.CX P w) 4 (adr K (.m (PySem.Str.ofString "Cursor") (PySem.Str.ofString "take"))) fd [(PySem.Str.ofString "self"), (PySem.Str.ofString "chars")] (spM K (T K) 2 m_Cursor_take) := z
  refine ⟨fd, F, z2 ?_⟩
  intro cdv A outer s H Ex X eX hr tk hp
  subst eX
  exact (zs_cons (z_for hp rfl (if_str (pf_v (pv 1))) (gf_name (i := 2) sc.nd rfl (Or.inl rfl)) (zs_cons (z_if (tf_cmp of_ne (pf_mtO0 (mt_of (c := 3) rfl E.f25 E.f30) G_Cursor_ahead (hr.mono (by decide)) b_Cursor_ahead_1 tk (pv 0)) (pf_v (pv 2)) (by rfl)) (zs_cons (z_expr (pf_mtO0 (mt_of (c := 3) rfl E.f25 E.f34) G_Cursor_refuse (hr.mono (by decide)) b_Cursor_refuse_1 tk (pv 0))) zs_nil) zs_nil) (zs_cons (z_fldA in_add E.tft_place (fun c _ _ => ct_len (by rfl) c) (pv 0) pf_int) zs_nil))) zs_nil)
/-! positive_at -/
def b_positive_at : En → SOut := (sCons (sSet 1 (fldV ft_place 0)) (sCons (sIf (tOr2 (tst (op2 sEq (mtO 3 0 1 m_Cursor_ahead oN) (cst (.str (PySem.Str.ofString ""))))) (tst (op2 tNotInS (mtO 3 0 1 m_Cursor_ahead oN) (sl3 (cst (.str (PySem.Str.ofString "0123456789"))) (isP (cst (.int 1))) noP)))) (sCons (sExpr (mtO 3 0 1 m_Cursor_refuse oN)) sNil) sNil) (sCons (whL (tAnd2 (tst (op2 sNe (mtO 3 0 1 m_Cursor_ahead oN) (cst (.str (PySem.Str.ofString ""))))) (tst (op2 tInS (mtO 3 0 1 m_Cursor_ahead oN) (cst (.str (PySem.Str.ofString "0123456789")))))) (sCons (sFldA ft_place 0 (fun i j => i + j) (cst (.int 1))) sNil) 1000000000) (sCons (sRet (cl1 (fun ds => opt (kIntS ds)) (aC (sl3 (fldV ft_text 0) (isP (rd 1)) (isP (fldV ft_place 0))) aN))) sNil))))
def m_positive_at : En → Out D := mOf 2 [0] b_positive_at
theorem sc_positive_at : FnScope [(PySem.Str.ofString "cursor"), (PySem.Str.ofString "start")] [(PySem.Str.ofString "cursor")] (defScope (top 30)) := ⟨rfl, rfl, rfl, by decide +kernel, rfl, by decide +kernel, by decide +kernel⟩
theorem ok_positive_at {P : Program} {w : World} {K : PySem.W.Frag} {mg : Str → Option Value} {base h : Heap} (E : Bd K mg h) : Got P w K mg base (T K) d_positive_at 4 [(PySem.Str.ofString "cursor")] m_positive_at := by
  obtain ⟨fd, F⟩ := E.c.def_ 17 (d := d_positive_at)
  obtain ⟨fd_Cursor_ahead, F_Cursor_ahead, G_Cursor_ahead⟩ := ok_Cursor_ahead (P := P) (w := w) (base := base) E
  obtain ⟨fd_Cursor_refuse, F_Cursor_refuse, G_Cursor_refuse⟩ := ok_Cursor_refuse (P := P) (w := w) (base := base) E
  have b_Cursor_ahead_1 : Dfl K (T K) fd_Cursor_ahead [(PySem.Str.ofString "self")] [] := dfl0 F_Cursor_ahead fun _ _ _ _ _ _ us hl => match us, hl with | [_], _ => rfl
  have b_Cursor_refuse_1 : Dfl K (T K) fd_Cursor_refuse [(PySem.Str.ofString "self")] [] := dfl0 F_Cursor_refuse fun _ _ _ _ _ _ us hl => match us, hl with | [_], _ => rfl
  have sc := sc_positive_at
  have F' : FunD K (PySem.Str.ofString "positive_at") (PySem.Str.ofString "positive_at") (defArgs (top 30)) (defBody (top 30)) (defScope (top 30)) (d_positive_at.dvs K) [] (adr K (.g (PySem.Str.ofString "positive_at"))) fd := F
  have z := @fn_okE P w K mg base _ _ _ _ _ _ _ _ fd (T K) [(PySem.Str.ofString "cursor"), (PySem.Str.ofString "start")] [(PySem.Str.ofString "cursor")] 3 [0] b_positive_at F' sc rfl
  have z2 : _ → FnOk P w K mg base (L2.CX P w) 4 (adr K (.g (PySem.Str.ofString "positive_at"))) fd [(PySem.Str.ofString "cursor")] (spM K (T K) 1 m_positive_at) := z
  refine ⟨fd, F, z2 ?_⟩
  intro cdv A outer s H Ex X eX hr tk hp
  subst eX
  exact (zs_cons (z_set (i := 1) sc.nd rfl (Or.inl rfl) (pf_fldV E.tft_place (pv 0))) (zs_cons (z_if (tf_w (wf_or (tf_cmp of_eq (pf_mtO0 (mt_of (c := 3) rfl E.f25 E.f30) G_Cursor_ahead (hr.mono (by decide)) b_Cursor_ahead_1 tk (pv 0)) pf_str (by rfl)) (wf_or1 (tf_cmp of_notInS (pf_mtO0 (mt_of (c := 3) rfl E.f25 E.f30) G_Cursor_ahead (hr.mono (by decide)) b_Cursor_ahead_1 tk (pv 0)) (pf_sl (pf_gs E.X E.G E.f38 rfl) (sf_some pf_int) sf_none) (by rfl))))) (zs_cons (z_expr (pf_mtO0 (mt_of (c := 3) rfl E.f25 E.f34) G_Cursor_refuse (hr.mono (by decide)) b_Cursor_refuse_1 tk (pv 0))) zs_nil) zs_nil) (zs_cons (z_while 1000000000 hp (tf_w (wf_and (tf_cmp of_ne (pf_mtO0 (mt_of (c := 3) rfl E.f25 E.f30) G_Cursor_ahead (hr.mono (by decide)) b_Cursor_ahead_1 tk (pv 0)) pf_str (by rfl)) (wf_and1 (tf_cmp of_inS (pf_mtO0 (mt_of (c := 3) rfl E.f25 E.f30) G_Cursor_ahead (hr.mono (by decide)) b_Cursor_ahead_1 tk (pv 0)) (pf_gs E.X E.G E.f38 rfl) (by rfl))))) (zs_cons (z_fldA in_add E.tft_place (fun c _ _ => ct_len (by rfl) c) (pv 0) pf_int) zs_nil)) (zs_cons (z_ret (pf_callTy cf_intS rfl (free_of E.X E.G E.f4) bt_int (af_cons (pf_sl (pf_fldV E.tft_text (pv 0)) (sf_some (pf_v (pv 1))) (sf_some (pf_fldV E.tft_place (pv 0)))) af_nil))) zs_nil))))
/-! count_at -/
def b_count_at : En → SOut := (sCons (sIf (tst (op2 sEq (mtO 3 0 1 m_Cursor_ahead oN) (cst (.str (PySem.Str.ofString "0"))))) (sCons (sExpr (mtO 3 0 2 m_Cursor_take (oC (cst (.str (PySem.Str.ofString "0"))) oN))) (sCons (sRet (cst (.int 0))) sNil)) sNil) (sCons (sRet (clO 0 1 m_positive_at oN)) sNil))
def m_count_at : En → Out D := mOf 1 [0] b_count_at
theorem sc_count_at : FnScope [(PySem.Str.ofString "cursor")] [(PySem.Str.ofString "cursor")] (defScope (top 31)) := ⟨rfl, rfl, rfl, by decide +kernel, rfl, by decide +kernel, by decide +kernel⟩
theorem ok_count_at {P : Program} {w : World} {K : PySem.W.Frag} {mg : Str → Option Value} {base h : Heap} (E : Bd K mg h) : Got P w K mg base (T K) d_count_at 5 [(PySem.Str.ofString "cursor")] m_count_at := by
  obtain ⟨fd, F⟩ := E.c.def_ 18 (d := d_count_at)
  obtain ⟨fd_Cursor_ahead, F_Cursor_ahead, G_Cursor_ahead⟩ := ok_Cursor_ahead (P := P) (w := w) (base := base) E
  obtain ⟨fd_Cursor_take, F_Cursor_take, G_Cursor_take⟩ := ok_Cursor_take (P := P) (w := w) (base := base) E
  obtain ⟨fd_positive_at, F_positive_at, G_positive_at⟩ := ok_positive_at (P := P) (w := w) (base := base) E
  have b_Cursor_ahead_1 : Dfl K (T K) fd_Cursor_ahead [(PySem.Str.ofString "self")] [] := dfl0 F_Cursor_ahead fun _ _ _ _ _ _ us hl => match us, hl with | [_], _ => rfl
  have b_Cursor_take_2 : Dfl K (T K) fd_Cursor_take [(PySem.Str.ofString "self"), (PySem.Str.ofString "chars")] [] := dfl0 F_Cursor_take fun _ _ _ _ _ _ us hl => match us, hl with | [_, _], _ => rfl
  have b_positive_at_1 : Dfl K (T K) fd_positive_at [(PySem.Str.ofString "cursor")] [] := dfl0 F_positive_at fun _ _ _ _ _ _ us hl => match us, hl with | [_], _ => rfl
  have sc := sc_count_at
  have F' : FunD K (PySem.Str.ofString "count_at") (PySem.Str.ofString "count_at") (defArgs (top 31)) (defBody (top 31)) (defScope (top 31)) (d_count_at.dvs K) [] (adr K (.g (PySem.Str.ofString "count_at"))) fd := F
  have z := @fn_okE P w K mg base _ _ _ _ _ _ _ _ fd (T K) [(PySem.Str.ofString "cursor")] [(PySem.Str.ofString "cursor")] 4 [0] b_count_at F' sc rfl
  have z2 : _ → FnOk P w K mg base (L2.CX P w) 5 (adr K (.g (PySem.Str.ofString "count_at"))) fd [(PySem.Str.ofString "cursor")] (spM K (T K) 1 m_count_at) := z
  refine ⟨fd, F, z2 ?_⟩
  intro cdv A outer s H Ex X eX hr tk hp
  subst eX
  exact (zs_cons (z_if (tf_cmp of_eq (pf_mtO0 (mt_of (c := 3) rfl E.f25 E.f30) G_Cursor_ahead (hr.mono (by decide)) b_Cursor_ahead_1 tk (pv 0)) pf_str (by rfl)) (zs_cons (z_expr (pf_mtO (mt_of (c := 3) rfl E.f25 E.f37) G_Cursor_take (hr.mono (by decide)) b_Cursor_take_2 tk (pv 0) (ao_cons pf_str ao_nil))) (zs_cons (z_ret pf_int) zs_nil)) zs_nil) (zs_cons (z_ret (pf_callO G_positive_at (hr.mono (by decide)) b_positive_at_1 tk rfl (glo_of E.X E.G E.f39) (keep_of E.f39) (pv 0) ao_nil)) zs_nil))
/-! whole_at -/
def b_whole_at : En → SOut := (sCons (sIf (tst (op2 sEq (mtO 3 0 1 m_Cursor_ahead oN) (cst (.str (PySem.Str.ofString "-"))))) (sCons (sExpr (mtO 3 0 2 m_Cursor_take (oC (cst (.str (PySem.Str.ofString "-"))) oN))) (sCons (sRet (iNeg (clO 0 1 m_positive_at oN))) sNil)) sNil) (sCons (sRet (clO 0 1 m_count_at oN)) sNil))
def m_whole_at : En → Out D := mOf 1 [0] b_whole_at
theorem sc_whole_at : FnScope [(PySem.Str.ofString "cursor")] [(PySem.Str.ofString "cursor")] (defScope (top 32)) := ⟨rfl, rfl, rfl, by decide +kernel, rfl, by decide +kernel, by decide +kernel⟩
theorem ok_whole_at {P : Program} {w : World} {K : PySem.W.Frag} {mg : Str → Option Value} {base h : Heap} (E : Bd K mg h) : Got P w K mg base (T K) d_whole_at 6 [(PySem.Str.ofString "cursor")] m_whole_at := by
  obtain ⟨fd, F⟩ := E.c.def_ 19 (d := d_whole_at)
  obtain ⟨fd_Cursor_ahead, F_Cursor_ahead, G_Cursor_ahead⟩ := ok_Cursor_ahead (P := P) (w := w) (base := base) E
  obtain ⟨fd_Cursor_take, F_Cursor_take, G_Cursor_take⟩ := ok_Cursor_take (P := P) (w := w) (base := base) E
  obtain ⟨fd_positive_at, F_positive_at, G_positive_at⟩ := ok_positive_at (P := P) (w := w) (base := base) E
  obtain ⟨fd_count_at, F_count_at, G_count_at⟩ := ok_count_at (P := P) (w := w) (base := base) E
  have b_Cursor_ahead_1 : Dfl K (T K) fd_Cursor_ahead [(PySem.Str.ofString "self")] [] := dfl0 F_Cursor_ahead fun _ _ _ _ _ _ us hl => match us, hl with | [_], _ => rfl
  have b_Cursor_take_2 : Dfl K (T K) fd_Cursor_take [(PySem.Str.ofString "self"), (PySem.Str.ofString "chars")] [] := dfl0 F_Cursor_take fun _ _ _ _ _ _ us hl => match us, hl with | [_, _], _ => rfl
  have b_positive_at_1 : Dfl K (T K) fd_positive_at [(PySem.Str.ofString "cursor")] [] := dfl0 F_positive_at fun _ _ _ _ _ _ us hl => match us, hl with | [_], _ => rfl
  have b_count_at_1 : Dfl K (T K) fd_count_at [(PySem.Str.ofString "cursor")] [] := dfl0 F_count_at fun _ _ _ _ _ _ us hl => match us, hl with | [_], _ => rfl
  have sc := sc_whole_at
  have F' : FunD K (PySem.Str.ofString "whole_at") (PySem.Str.ofString "whole_at") (defArgs (top 32)) (defBody (top 32)) (defScope (top 32)) (d_whole_at.dvs K) [] (adr K (.g (PySem.Str.ofString "whole_at"))) fd := F
  have z := @fn_okE P w K mg base _ _ _ _ _ _ _ _ fd (T K) [(PySem.Str.ofString "cursor")] [(PySem.Str.ofString "cursor")] 5 [0] b_whole_at F' sc rfl
  have z2 : _ → FnOk P w K mg base (L2.CX P w) 6 (adr K (.g (PySem.Str.ofString "whole_at"))) fd [(PySem.Str.ofString "cursor")] (spM K (T K) 1 m_whole_at) := z
  refine ⟨fd, F, z2 ?_⟩
  intro cdv A outer s H Ex X eX hr tk hp
  subst eX
  exact (zs_cons (z_if (tf_cmp of_eq (pf_mtO0 (mt_of (c := 3) rfl E.f25 E.f30) G_Cursor_ahead (hr.mono (by decide)) b_Cursor_ahead_1 tk (pv 0)) pf_str (by rfl)) (zs_cons (z_expr (pf_mtO (mt_of (c := 3) rfl E.f25 E.f37) G_Cursor_take (hr.mono (by decide)) b_Cursor_take_2 tk (pv 0) (ao_cons pf_str ao_nil))) (zs_cons (z_ret (pf_neg (pf_callO G_positive_at (hr.mono (by decide)) b_positive_at_1 tk rfl (glo_of E.X E.G E.f39) (keep_of E.f39) (pv 0) ao_nil))) zs_nil)) zs_nil) (zs_cons (z_ret (pf_callO G_count_at (hr.mono (by decide)) b_count_at_1 tk rfl (glo_of E.X E.G E.f40) (keep_of E.f40) (pv 0) ao_nil)) zs_nil))
/-! fraction_at -/
def b_fraction_at : En → SOut := (sCons (sSet 1 (clO 0 1 m_whole_at oN)) (sCons (sIf (tst (op2 sNe (mtO 3 0 1 m_Cursor_ahead oN) (cst (.str (PySem.Str.ofString "/"))))) (sCons (sRet (cl1 (mkM 0 2 3 [.int 1] m_FractionD_initD) (aC (rd 1) aN))) sNil) sNil) (sCons (sExpr (mtO 3 0 2 m_Cursor_take (oC (cst (.str (PySem.Str.ofString "/"))) oN))) (sCons (sSet 2 (clO 0 1 m_positive_at oN)) (sCons (sSet 3 (cl1 (mkM 0 2 3 [] m_FractionD_initD) (aC (rd 1) (aC (rd 2) aN)))) (sCons (sIf (tOr2 (tst (op2 sEq (rd 2) (cst (.int 1)))) (tst (op2 sNe (fld ft_den (rd 3)) (rd 2)))) (sCons (sExpr (mtO 3 0 1 m_Cursor_refuse oN)) sNil) sNil) (sCons (sRet (rd 3)) sNil)))))))
def m_fraction_at : En → Out D := mOf 4 [0] b_fraction_at
theorem sc_fraction_at : FnScope [(PySem.Str.ofString "cursor"), (PySem.Str.ofString "num"), (PySem.Str.ofString "den"), (PySem.Str.ofString "x")] [(PySem.Str.ofString "cursor")] (defScope (top 33)) := ⟨rfl, rfl, rfl, by decide +kernel, rfl, by decide +kernel, by decide +kernel⟩
theorem ok_fraction_at {P : Program} {w : World} {K : PySem.W.Frag} {mg : Str → Option Value} {base h : Heap} (E : Bd K mg h) : Got P w K mg base (T K) d_fraction_at 7 [(PySem.Str.ofString "cursor")] m_fraction_at := by
  obtain ⟨fd, F⟩ := E.c.def_ 20 (d := d_fraction_at)
  obtain ⟨fd_whole_at, F_whole_at, G_whole_at⟩ := ok_whole_at (P := P) (w := w) (base := base) E
  obtain ⟨fd_Cursor_ahead, F_Cursor_ahead, G_Cursor_ahead⟩ := ok_Cursor_ahead (P := P) (w := w) (base := base) E
  obtain ⟨fd_FractionD_initD, F_FractionD_initD, G_FractionD_initD⟩ := ok_FractionD_initD (P := P) (w := w) (base := base) E
  obtain ⟨fd_Cursor_take, F_Cursor_take, G_Cursor_take⟩ := ok_Cursor_take (P := P) (w := w) (base := base) E
  obtain ⟨fd_positive_at, F_positive_at, G_positive_at⟩ := ok_positive_at (P := P) (w := w) (base := base) E
  obtain ⟨fd_Cursor_refuse, F_Cursor_refuse, G_Cursor_refuse⟩ := ok_Cursor_refuse (P := P) (w := w) (base := base) E
  have b_whole_at_1 : Dfl K (T K) fd_whole_at [(PySem.Str.ofString "cursor")] [] := dfl0 F_whole_at fun _ _ _ _ _ _ us hl => match us, hl with | [_], _ => rfl
  have b_Cursor_ahead_1 : Dfl K (T K) fd_Cursor_ahead [(PySem.Str.ofString "self")] [] := dfl0 F_Cursor_ahead fun _ _ _ _ _ _ us hl => match us, hl with | [_], _ => rfl
  have b_FractionD_initD_2 : Dfl K (T K) fd_FractionD_initD [(PySem.Str.ofString "self"), (PySem.Str.ofString "num"), (PySem.Str.ofString "den")] [.int 1] := dfl1 F_FractionD_initD 2 0 (by intro h; cases h) rfl (fun _ => .cons (.int _) (.nil)) fun _ _ _ _ _ _ _ us its hl hi => match us, its, hl, hi with | [_, _], [_], _, _ => ⟨_, rfl, rfl⟩
  have b_Cursor_take_2 : Dfl K (T K) fd_Cursor_take [(PySem.Str.ofString "self"), (PySem.Str.ofString "chars")] [] := dfl0 F_Cursor_take fun _ _ _ _ _ _ us hl => match us, hl with | [_, _], _ => rfl
  have b_positive_at_1 : Dfl K (T K) fd_positive_at [(PySem.Str.ofString "cursor")] [] := dfl0 F_positive_at fun _ _ _ _ _ _ us hl => match us, hl with | [_], _ => rfl
  have b_FractionD_initD_3 : Dfl K (T K) fd_FractionD_initD [(PySem.Str.ofString "self"), (PySem.Str.ofString "num"), (PySem.Str.ofString "den")] [] := dfl1 F_FractionD_initD 3 1 (by intro h; cases h) rfl (fun _ => .nil) fun _ _ _ _ _ _ _ us its hl hi => match us, its, hl, hi with | [_, _, _], [_], _, _ => ⟨_, rfl, rfl⟩
  have b_Cursor_refuse_1 : Dfl K (T K) fd_Cursor_refuse [(PySem.Str.ofString "self")] [] := dfl0 F_Cursor_refuse fun _ _ _ _ _ _ us hl => match us, hl with | [_], _ => rfl
  have sc := sc_fraction_at
  have F' : FunD K (PySem.Str.ofString "fraction_at") (PySem.Str.ofString "fraction_at") (defArgs (top 33)) (defBody (top 33)) (defScope (top 33)) (d_fraction_at.dvs K) [] (adr K (.g (PySem.Str.ofString "fraction_at"))) fd := F
  have z := @fn_okE P w K mg base _ _ _ _ _ _ _ _ fd (T K) [(PySem.Str.ofString "cursor"), (PySem.Str.ofString "num"), (PySem.Str.ofString "den"), (PySem.Str.ofString "x")] [(PySem.Str.ofString "cursor")] 6 [0] b_fraction_at F' sc rfl
  have z2 : _ → FnOk P w K mg base (L2.CX P w) 7 (adr K (.g (PySem.Str.ofString "fraction_at"))) fd [(PySem.Str.ofString "cursor")] (spM K (T K) 1 m_fraction_at) := z
  refine ⟨fd, F, z2 ?_⟩
  intro cdv A outer s H Ex X eX hr tk hp
  subst eX
  exact (zs_cons (z_set (i := 1) sc.nd rfl (Or.inl rfl) (pf_callO G_whole_at (hr.mono (by decide)) b_whole_at_1 tk rfl (glo_of E.X E.G E.f41) (keep_of E.f41) (pv 0) ao_nil)) (zs_cons (z_if (tf_cmp of_ne (pf_mtO0 (mt_of (c := 3) rfl E.f25 E.f30) G_Cursor_ahead (hr.mono (by decide)) b_Cursor_ahead_1 tk (pv 0)) pf_str (by rfl)) (zs_cons (z_ret (pf_call (kf_mk (mk_of (c := 0) rfl E.f19) G_FractionD_initD (hr.mono (by decide)) b_FractionD_initD_2 tk) rfl (glo_of E.X E.G E.f20) (keep_of E.f20) (af_cons (pf_v (pv 1)) af_nil))) zs_nil) zs_nil) (zs_cons (z_expr (pf_mtO (mt_of (c := 3) rfl E.f25 E.f37) G_Cursor_take (hr.mono (by decide)) b_Cursor_take_2 tk (pv 0) (ao_cons pf_str ao_nil))) (zs_cons (z_set (i := 2) sc.nd rfl (Or.inl rfl) (pf_callO G_positive_at (hr.mono (by decide)) b_positive_at_1 tk rfl (glo_of E.X E.G E.f39) (keep_of E.f39) (pv 0) ao_nil)) (zs_cons (z_set (i := 3) sc.nd rfl (Or.inl rfl) (pf_call (kf_mk (mk_of (c := 0) rfl E.f19) G_FractionD_initD (hr.mono (by decide)) b_FractionD_initD_3 tk) rfl (glo_of E.X E.G E.f20) (keep_of E.f20) (af_cons (pf_v (pv 1)) (af_cons (pf_v (pv 2)) af_nil)))) (zs_cons (z_if (tf_w (wf_or (tf_cmp of_eq (pf_v (pv 2)) pf_int (by rfl)) (wf_or1 (tf_cmp of_ne (pf_fld E.tft_den (pf_v (pv 3))) (pf_v (pv 2)) (by rfl))))) (zs_cons (z_expr (pf_mtO0 (mt_of (c := 3) rfl E.f25 E.f34) G_Cursor_refuse (hr.mono (by decide)) b_Cursor_refuse_1 tk (pv 0))) zs_nil) zs_nil) (zs_cons (z_ret (pf_v (pv 3))) zs_nil)))))))
/-! listed_at@fraction_at -/
def b_listed_at_fraction_at : En → SOut := (sCons (sExpr (mtO 3 0 2 m_Cursor_take (oC (rd 1) oN))) (sCons (sSetN 4 (nLst aN)) (sCons (sIf (tst (op2 sNe (mtO 3 0 1 m_Cursor_ahead oN) (rd 2))) (sCons (sApp 4 (lcO 3 5 0 1 m_fraction_at oN)) (sCons (whL (tst (op2 sEq (mtO 3 0 1 m_Cursor_ahead oN) (cst (.str (PySem.Str.ofString " "))))) (sCons (sExpr (mtO 3 0 2 m_Cursor_take (oC (cst (.str (PySem.Str.ofString " "))) oN))) (sCons (sApp 4 (lcO 3 5 0 1 m_fraction_at oN)) sNil)) 1000000000) sNil)) sNil) (sCons (sExpr (mtO 3 0 2 m_Cursor_take (oC (rd 2) oN))) (sCons (sRet (rd 4)) sNil)))))
def m_listed_at_fraction_at : En → Out D := mOf 5 [0] b_listed_at_fraction_at
theorem sc_listed_at_fraction_at : FnScope [(PySem.Str.ofString "cursor"), (PySem.Str.ofString "opening"), (PySem.Str.ofString "closing"), (PySem.Str.ofString "read_entry"), (PySem.Str.ofString "entries")] [(PySem.Str.ofString "cursor"), (PySem.Str.ofString "opening"), (PySem.Str.ofString "closing"), (PySem.Str.ofString "read_entry")] (defScope (top 34)) := ⟨rfl, rfl, rfl, by decide +kernel, rfl, by decide +kernel, by decide +kernel⟩
theorem ok_listed_at_fraction_at {P : Program} {w : World} {K : PySem.W.Frag} {mg : Str → Option Value} {base h : Heap} (E : Bd K mg h) : Got P w K mg base (T K) d_listed_at_fraction_at 8 [(PySem.Str.ofString "cursor"), (PySem.Str.ofString "opening"), (PySem.Str.ofString "closing"), (PySem.Str.ofString "read_entry")] m_listed_at_fraction_at := by
  obtain ⟨fd, F⟩ := E.c.def_ 21 (d := d_listed_at_fraction_at)
  obtain ⟨fd_Cursor_take, F_Cursor_take, G_Cursor_take⟩ := ok_Cursor_take (P := P) (w := w) (base := base) E
  obtain ⟨fd_Cursor_ahead, F_Cursor_ahead, G_Cursor_ahead⟩ := ok_Cursor_ahead (P := P) (w := w) (base := base) E
  obtain ⟨fd_fraction_at, F_fraction_at, G_fraction_at⟩ := ok_fraction_at (P := P) (w := w) (base := base) E
  have b_Cursor_take_2 : Dfl K (T K) fd_Cursor_take [(PySem.Str.ofString "self"), (PySem.Str.ofString "chars")] [] := dfl0 F_Cursor_take fun _ _ _ _ _ _ us hl => match us, hl with | [_, _], _ => rfl
  have b_Cursor_ahead_1 : Dfl K (T K) fd_Cursor_ahead [(PySem.Str.ofString "self")] [] := dfl0 F_Cursor_ahead fun _ _ _ _ _ _ us hl => match us, hl with | [_], _ => rfl
  have b_fraction_at_1 : Dfl K (T K) fd_fraction_at [(PySem.Str.ofString "cursor")] [] := dfl0 F_fraction_at fun _ _ _ _ _ _ us hl => match us, hl with | [_], _ => rfl
  have sc := sc_listed_at_fraction_at
  have F' : FunD K (PySem.Str.ofString "listed_at") (PySem.Str.ofString "listed_at") (defArgs (top 34)) (defBody (top 34)) (defScope (top 34)) (d_listed_at_fraction_at.dvs K) [] (adr K (.g (PySem.Str.ofString "listed_at"))) fd := F
  have z := @fn_okE P w K mg base _ _ _ _ _ _ _ _ fd (T K) [(PySem.Str.ofString "cursor"), (PySem.Str.ofString "opening"), (PySem.Str.ofString "closing"), (PySem.Str.ofString "read_entry"), (PySem.Str.ofString "entries")] [(PySem.Str.ofString "cursor"), (PySem.Str.ofString "opening"), (PySem.Str.ofString "closing"), (PySem.Str.ofString "read_entry")] 7 [0] b_listed_at_fraction_at F' sc rfl
  have z2 : _ → FnOk P w K mg base (L2.CX P w) 8 (adr K (.g (PySem.Str.ofString "listed_at"))) fd [(PySem.Str.ofString "cursor"), (PySem.Str.ofString "opening"), (PySem.Str.ofString "closing"), (PySem.Str.ofString "read_entry")] (spM K (T K) 4 m_listed_at_fraction_at) := z
  refine ⟨fd, F, z2 ?_⟩
  intro cdv A outer s H Ex X eX hr tk hp
  subst eX
  exact (zs_cons (z_expr (pf_mtO (mt_of (c := 3) rfl E.f25 E.f37) G_Cursor_take (hr.mono (by decide)) b_Cursor_take_2 tk (pv 0) (ao_cons (pf_v (pv 1)) ao_nil))) (zs_cons (z_setN (i := 4) sc.nd rfl (Or.inl rfl) (pn_lst af_nil)) (zs_cons (z_if (tf_cmp of_ne (pf_mtO0 (mt_of (c := 3) rfl E.f25 E.f30) G_Cursor_ahead (hr.mono (by decide)) b_Cursor_ahead_1 tk (pv 0)) (pf_v (pv 2)) (by rfl)) (zs_cons (z_app (pv 4) (pf_lcO (kn := 5) G_fraction_at (hr.mono (by decide)) b_fraction_at_1 tk (pv 3) (keep_of E.f42) (pv 0) ao_nil)) (zs_cons (z_while 1000000000 hp (tf_cmp of_eq (pf_mtO0 (mt_of (c := 3) rfl E.f25 E.f30) G_Cursor_ahead (hr.mono (by decide)) b_Cursor_ahead_1 tk (pv 0)) pf_str (by rfl)) (zs_cons (z_expr (pf_mtO (mt_of (c := 3) rfl E.f25 E.f37) G_Cursor_take (hr.mono (by decide)) b_Cursor_take_2 tk (pv 0) (ao_cons pf_str ao_nil))) (zs_cons (z_app (pv 4) (pf_lcO (kn := 5) G_fraction_at (hr.mono (by decide)) b_fraction_at_1 tk (pv 3) (keep_of E.f42) (pv 0) ao_nil)) zs_nil))) zs_nil)) zs_nil) (zs_cons (z_expr (pf_mtO (mt_of (c := 3) rfl E.f25 E.f37) G_Cursor_take (hr.mono (by decide)) b_Cursor_take_2 tk (pv 0) (ao_cons (pf_v (pv 2)) ao_nil))) (zs_cons (z_ret (pf_v (pv 4))) zs_nil)))))
/-! Fraction.is_zero -/
def b_Fraction_is_zero : En → SOut := (sCons (sRet (op2 sEq (fld ft_num (rd 0)) (cst (.int 0)))) sNil)
def m_Fraction_is_zero : En → Out D := mOf 1 [] b_Fraction_is_zero
theorem sc_Fraction_is_zero : FnScope [(PySem.Str.ofString "self")] [(PySem.Str.ofString "self")] (defScope (mem 9 1)) := ⟨rfl, rfl, rfl, by decide +kernel, rfl, by decide +kernel, by decide +kernel⟩
theorem ok_Fraction_is_zero {P : Program} {w : World} {K : PySem.W.Frag} {mg : Str → Option Value} {base h : Heap} (E : Bd K mg h) : Got P w K mg base (T K) d_Fraction_is_zero 1 [(PySem.Str.ofString "self")] m_Fraction_is_zero := by
  obtain ⟨fd, F⟩ := E.c.def_ 22 (d := d_Fraction_is_zero)
  have sc := sc_Fraction_is_zero
  have F' : FunD K (PySem.Str.ofString "is_zero") (PySem.Str.ofString "Fraction.is_zero") (defArgs (mem 9 1)) (defBody (mem 9 1)) (defScope (mem 9 1)) (d_Fraction_is_zero.dvs K) [] (adr K (.p (PySem.Str.ofString "Fraction") (PySem.Str.ofString "is_zero"))) fd := F
  have z := @fn_okE P w K mg base _ _ _ _ _ _ _ _ fd (T K) [(PySem.Str.ofString "self")] [(PySem.Str.ofString "self")] 0 [] b_Fraction_is_zero F' sc rfl
  have z2 : _ → FnOk P w K mg base (L2.CX P w) 1 (adr K (.p (PySem.Str.ofString "Fraction") (PySem.Str.ofString "is_zero"))) fd [(PySem.Str.ofString "self")] (spM K (T K) 1 m_Fraction_is_zero) := z
  refine ⟨fd, F, z2 ?_⟩
  intro cdv A outer s H Ex X eX hr tk hp
  subst eX
  exact (zs_cons (z_ret (pf_cmp of_eq (pf_fld E.tft_num (pf_v (pv 0))) pf_int (by rfl))) zs_nil)
/-! trimmed -/
def b_trimmed : En → SOut := (sCons (sSet 1 (vLen (vw 0))) (sCons (whL (tAnd2 (tst (op2 iGt (rd 1) (cst (.int 0)))) (tst (op2 sEq (ixV 0 (op2 iSub (rd 1) (cst (.int 1)))) (cst (.int 0))))) (sCons (sAug 1 (fun i j => i - j) (cst (.int 1))) sNil) 1000000000) (sCons (sRet (fz (nSlV 0 noP (isP (rd 1))))) sNil)))
def m_trimmed : En → Out D := mOf 2 [] b_trimmed
theorem sc_trimmed : FnScope [(PySem.Str.ofString "numbers"), (PySem.Str.ofString "size")] [(PySem.Str.ofString "numbers")] (defScope (top 11)) := ⟨rfl, rfl, rfl, by decide +kernel, rfl, by decide +kernel, by decide +kernel⟩
theorem ok_trimmed {P : Program} {w : World} {K : PySem.W.Frag} {mg : Str → Option Value} {base h : Heap} (E : Bd K mg h) : Got P w K mg base (T K) d_trimmed 1 [(PySem.Str.ofString "numbers")] m_trimmed := by
  obtain ⟨fd, F⟩ := E.c.def_ 23 (d := d_trimmed)
  have sc := sc_trimmed
  have F' : FunD K (PySem.Str.ofString "trimmed") (PySem.Str.ofString "trimmed") (defArgs (top 11)) (defBody (top 11)) (defScope (top 11)) (d_trimmed.dvs K) [] (adr K (.g (PySem.Str.ofString "trimmed"))) fd := F
  have z := @fn_okE P w K mg base _ _ _ _ _ _ _ _ fd (T K) [(PySem.Str.ofString "numbers"), (PySem.Str.ofString "size")] [(PySem.Str.ofString "numbers")] 0 [] b_trimmed F' sc rfl
  have z2 : _ → FnOk P w K mg base (L2.CX P w) 1 (adr K (.g (PySem.Str.ofString "trimmed"))) fd [(PySem.Str.ofString "numbers")] (spM K (T K) 1 m_trimmed) := z
  refine ⟨fd, F, z2 ?_⟩
  intro cdv A outer s H Ex X eX hr tk hp
  subst eX
  exact (zs_cons (z_set (i := 1) sc.nd rfl (Or.inl rfl) (pf_lenV (vf_v (pv 0)) rfl (free_of E.X E.G E.f0) bt_len)) (zs_cons (z_while 1000000000 hp (tf_w (wf_and (tf_cmp of_gt (pf_v (pv 1)) pf_int (by rfl)) (wf_and1 (tf_cmp of_eq (pf_ixV (pv 0) (pf_op of_sub (pf_v (pv 1)) pf_int)) pf_int (by rfl))))) (zs_cons (z_aug (i := 1) ip_sub sc.nd rfl (Or.inl rfl) pf_int) zs_nil)) (zs_cons (z_ret (pf_n (pn_slV (pv 0) sf_none (sf_some (pf_v (pv 1)))))) zs_nil)))
/-! content -/
def b_content : En → SOut := (sCons (sSet 1 (cst (.int 0))) (sCons (sFor (itA (rd 0)) (gN 2) (sCons (sSet 1 (cl1 (fun ds => opt (k2 (fun i j => .int ((Nat.gcd i.natAbs j.natAbs : Nat) : Int)) ds)) (aC (rd 1) (aC (rd 2) aN)))) sNil)) (sCons (sRet (rd 1)) sNil)))
def m_content : En → Out D := mOf 3 [] b_content
theorem sc_content : FnScope [(PySem.Str.ofString "numbers"), (PySem.Str.ofString "divisor"), (PySem.Str.ofString "number")] [(PySem.Str.ofString "numbers")] (defScope (top 12)) := ⟨rfl, rfl, rfl, by decide +kernel, rfl, by decide +kernel, by decide +kernel⟩
theorem ok_content {P : Program} {w : World} {K : PySem.W.Frag} {mg : Str → Option Value} {base h : Heap} (E : Bd K mg h) : Got P w K mg base (T K) d_content 1 [(PySem.Str.ofString "numbers")] m_content := by
  obtain ⟨fd, F⟩ := E.c.def_ 24 (d := d_content)
  have sc := sc_content
  have F' : FunD K (PySem.Str.ofString "content") (PySem.Str.ofString "content") (defArgs (top 12)) (defBody (top 12)) (defScope (top 12)) (d_content.dvs K) [] (adr K (.g (PySem.Str.ofString "content"))) fd := F
  have z := @fn_okE P w K mg base _ _ _ _ _ _ _ _ fd (T K) [(PySem.Str.ofString "numbers"), (PySem.Str.ofString "divisor"), (PySem.Str.ofString "number")] [(PySem.Str.ofString "numbers")] 0 [] b_content F' sc rfl
  have z2 : _ → FnOk P w K mg base (L2.CX P w) 1 (adr K (.g (PySem.Str.ofString "content"))) fd [(PySem.Str.ofString "numbers")] (spM K (T K) 1 m_content) := z
  refine ⟨fd, F, z2 ?_⟩
  intro cdv A outer s H Ex X eX hr tk hp
  subst eX
  exact (zs_cons (z_set (i := 1) sc.nd rfl (Or.inl rfl) pf_int) (zs_cons (z_for hp rfl (if_any (pf_v (pv 0))) (gf_name (i := 2) sc.nd rfl (Or.inl rfl)) (zs_cons (z_set (i := 1) sc.nd rfl (Or.inl rfl) (pf_callG cf_gcd rfl (blt_of E.X E.G E.f18) (af_cons (pf_v (pv 1)) (af_cons (pf_v (pv 2)) af_nil)))) zs_nil)) (zs_cons (z_ret (pf_v (pv 1))) zs_nil)))
/-! Poly.__init__ -/
def b_PolyD_initD : En → SOut := (sCons (sIf (tst (op2 sEq (rd 2) (cst (.int 0)))) (sCons sEr sNil) sNil) (sCons (sSet 3 (cl1 (fnM 1 [] m_trimmed) (aC (fz (vw 1)) aN))) (sCons (sSet 4 (cl1 (fun ds => opt (k2 (fun i j => .int ((Nat.gcd i.natAbs j.natAbs : Nat) : Int)) ds)) (aC (cl1 (fnM 1 [] m_content) (aC (rd 3) aN)) (aC (rd 2) aN)))) (sCons (sIf (tst (op2 iLt (rd 2) (cst (.int 0)))) (sCons (sSet 4 (iNeg (rd 4))) sNil) sNil) (sCons (sFldS ft_coefs 0 (cl1 (fun ds => opt (kTup ds)) (aC (fz (nLc (itA (rd 3)) (gN 5) always (op2 iDiv (rd 5) (rd 4)) [5])) aN))) (sCons (sFldS ft_den 0 (op2 iDiv (rd 2) (rd 4))) sNil))))))
def m_PolyD_initD : En → Out D := mOf 6 [0] b_PolyD_initD
theorem sc_PolyD_initD : FnScope [(PySem.Str.ofString "self"), (PySem.Str.ofString "coefs"), (PySem.Str.ofString "den"), (PySem.Str.ofString "numbers"), (PySem.Str.ofString "divisor"), (PySem.Str.ofString "number")] [(PySem.Str.ofString "self"), (PySem.Str.ofString "coefs"), (PySem.Str.ofString "den")] (defScope (mem 13 0)) := ⟨rfl, rfl, rfl, by decide +kernel, rfl, by decide +kernel, by decide +kernel⟩
theorem ok_PolyD_initD {P : Program} {w : World} {K : PySem.W.Frag} {mg : Str → Option Value} {base h : Heap} (E : Bd K mg h) : Got P w K mg base (T K) d_PolyD_initD 2 [(PySem.Str.ofString "self"), (PySem.Str.ofString "coefs"), (PySem.Str.ofString "den")] m_PolyD_initD := by
  obtain ⟨fd, F⟩ := E.c.def_ 25 (d := d_PolyD_initD)
  obtain ⟨fd_trimmed, F_trimmed, G_trimmed⟩ := ok_trimmed (P := P) (w := w) (base := base) E
  obtain ⟨fd_content, F_content, G_content⟩ := ok_content (P := P) (w := w) (base := base) E
  have b_trimmed_1 : Dfl K (T K) fd_trimmed [(PySem.Str.ofString "numbers")] [] := dfl0 F_trimmed fun _ _ _ _ _ _ us hl => match us, hl with | [_], _ => rfl
  have b_content_1 : Dfl K (T K) fd_content [(PySem.Str.ofString "numbers")] [] := dfl0 F_content fun _ _ _ _ _ _ us hl => match us, hl with | [_], _ => rfl
  have sc := sc_PolyD_initD
  have F' : FunD K (PySem.Str.ofString "__init__") (PySem.Str.ofString "Poly.__init__") (defArgs (mem 13 0)) (defBody (mem 13 0)) (defScope (mem 13 0)) (d_PolyD_initD.dvs K) [] (adr K (.m (PySem.Str.ofString "Poly") (PySem.Str.ofString "__init__"))) fd := F
  have z := @fn_okE P w K mg base _ _ _ _ _ _ _ _ fd (T K) [(PySem.Str.ofString "self"), (PySem.Str.ofString "coefs"), (PySem.Str.ofString "den"), (PySem.Str.ofString "numbers"), (PySem.Str.ofString "divisor"), (PySem.Str.ofString "number")] [(PySem.Str.ofString "self"), (PySem.Str.ofString "coefs"), (PySem.Str.ofString "den")] 1 [0] b_PolyD_initD F' sc rfl
  have z2 : _ → FnOk P w K mg base (L2.CX P w) 2 (adr K (.m (PySem.Str.ofString "Poly") (PySem.Str.ofString "__init__"))) fd [(PySem.Str.ofString "self"), (PySem.Str.ofString "coefs"), (PySem.Str.ofString "den")] (spM K (T K) 3 m_PolyD_initD) := z
  refine ⟨fd, F, z2 ?_⟩
  intro cdv A outer s H Ex X eX hr tk hp
  subst eX
  exact (zs_cons (z_if (tf_cmp of_eq (pf_v (pv 2)) pf_int (by rfl)) (zs_cons z_never zs_nil) zs_nil) (zs_cons (z_set (i := 3) sc.nd rfl (Or.inl rfl) (pf_call (kf_fn G_trimmed (hr.mono (by decide)) b_trimmed_1 tk) rfl (glo_of E.X E.G E.f47) (keep_of E.f47) (af_cons (pf_n (pn_listV (vf_v (pv 1)) rfl (free_of E.X E.G E.f46) bt_list)) af_nil))) (zs_cons (z_set (i := 4) sc.nd rfl (Or.inr rfl) (pf_callG cf_gcd rfl (blt_of E.X E.G E.f18) (af_cons (pf_call (kf_fn G_content (hr.mono (by decide)) b_content_1 tk) rfl (glo_of E.X E.G E.f48) (keep_of E.f48) (af_cons (pf_v (pv 3)) af_nil)) (af_cons (pf_v (pv 2)) af_nil)))) (zs_cons (z_if (tf_cmp of_lt (pf_v (pv 2)) pf_int (by rfl)) (zs_cons (z_set (i := 4) sc.nd rfl (Or.inr rfl) (pf_neg (pf_v (pv 4)))) zs_nil) zs_nil) (zs_cons (z_fld E.tft_coefs (fun c _ _ => ct_len (by rfl) c) (pv 0) (pf_callTy cf_tuple rfl (free_of E.X E.G E.f49) bt_tuple (af_cons (pf_n (pn_lc0 rfl sc.nd (if_any (pf_v (pv 3))) (blkOk_by (own := [((PySem.Str.ofString "number"), 5)]) (by kernel_rfl)) (fun _ _ _ _ _ => (gf_name (i := 5) sc.nd rfl (Or.inl rfl))) (fun _ _ _ _ _ => (pf_op of_div (pf_v (pv 5)) (pf_v (pv 4)))))) af_nil))) (zs_cons (z_fld E.tft_den (fun c _ _ => ct_len (by rfl) c) (pv 0) (pf_op of_div (pf_v (pv 2)) (pf_v (pv 4)))) zs_nil))))))
/-! from_fractions -/
def b_from_fractions : En → SOut := (sCons (sSet 1 (cst (.int 1))) (sCons (sFor (itA (rd 0)) (gN 2) (sCons (sSet 1 (cl1 (fun ds => opt (kLcm ds)) (aC (rd 1) (aC (fld ft_den (rd 2)) aN)))) sNil)) (sCons (sRet (cl1 (mkM 1 2 3 [] m_PolyD_initD) (aC (fz (nLc (itA (rd 0)) (gN 2) always (op2 iMul (fld ft_num (rd 2)) (op2 iDiv (rd 1) (fld ft_den (rd 2)))) [2])) (aC (rd 1) aN)))) sNil)))
def m_from_fractions : En → Out D := mOf 3 [] b_from_fractions
theorem sc_from_fractions : FnScope [(PySem.Str.ofString "fractions"), (PySem.Str.ofString "den"), (PySem.Str.ofString "fraction")] [(PySem.Str.ofString "fractions")] (defScope (top 14)) := ⟨rfl, rfl, rfl, by decide +kernel, rfl, by decide +kernel, by decide +kernel⟩
theorem ok_from_fractions {P : Program} {w : World} {K : PySem.W.Frag} {mg : Str → Option Value} {base h : Heap} (E : Bd K mg h) : Got P w K mg base (T K) d_from_fractions 4 [(PySem.Str.ofString "fractions")] m_from_fractions := by
  obtain ⟨fd, F⟩ := E.c.def_ 26 (d := d_from_fractions)
  obtain ⟨fd_PolyD_initD, F_PolyD_initD, G_PolyD_initD⟩ := ok_PolyD_initD (P := P) (w := w) (base := base) E
  have b_PolyD_initD_3 : Dfl K (T K) fd_PolyD_initD [(PySem.Str.ofString "self"), (PySem.Str.ofString "coefs"), (PySem.Str.ofString "den")] [] := dfl1 F_PolyD_initD 3 1 (by intro h; cases h) rfl (fun _ => .nil) fun _ _ _ _ _ _ _ us its hl hi => match us, its, hl, hi with | [_, _, _], [_], _, _ => ⟨_, rfl, rfl⟩
  have sc := sc_from_fractions
  have F' : FunD K (PySem.Str.ofString "from_fractions") (PySem.Str.ofString "from_fractions") (defArgs (top 14)) (defBody (top 14)) (defScope (top 14)) (d_from_fractions.dvs K) [] (adr K (.g (PySem.Str.ofString "from_fractions"))) fd := F
  have z := @fn_okE P w K mg base _ _ _ _ _ _ _ _ fd (T K) [(PySem.Str.ofString "fractions"), (PySem.Str.ofString "den"), (PySem.Str.ofString "fraction")] [(PySem.Str.ofString "fractions")] 3 [] b_from_fractions F' sc rfl
  have z2 : _ → FnOk P w K mg base (L2.CX P w) 4 (adr K (.g (PySem.Str.ofString "from_fractions"))) fd [(PySem.Str.ofString "fractions")] (spM K (T K) 1 m_from_fractions) := z
  refine ⟨fd, F, z2 ?_⟩
  intro cdv A outer s H Ex X eX hr tk hp
  subst eX
  exact (zs_cons (z_set (i := 1) sc.nd rfl (Or.inr rfl) pf_int) (zs_cons (z_for hp rfl (if_any (pf_v (pv 0))) (gf_name (i := 2) sc.nd rfl (Or.inl rfl)) (zs_cons (z_set (i := 1) sc.nd rfl (Or.inr rfl) (pf_callG cf_lcm rfl (blt_of E.X E.G E.f45) (af_cons (pf_v (pv 1)) (af_cons (pf_fld E.tft_den (pf_v (pv 2))) af_nil)))) zs_nil)) (zs_cons (z_ret (pf_call (kf_mk (mk_of (c := 1) rfl E.f50) G_PolyD_initD (hr.mono (by decide)) b_PolyD_initD_3 tk) rfl (glo_of E.X E.G E.f51) (keep_of E.f51) (af_cons (pf_n (pn_lc0 rfl sc.nd (if_any (pf_v (pv 0))) (blkOk_by (own := [((PySem.Str.ofString "fraction"), 2)]) (by kernel_rfl)) (fun _ _ _ _ _ => (gf_name (i := 2) sc.nd rfl (Or.inl rfl))) (fun _ _ _ _ _ => (pf_op of_mul (pf_fld E.tft_num (pf_v (pv 2))) (pf_op of_div (pf_v (pv 1)) (pf_fld E.tft_den (pf_v (pv 2)))))))) (af_cons (pf_v (pv 1)) af_nil)))) zs_nil)))
/-! poly_at -/
def b_poly_at : En → SOut := (sCons (sSet 1 (clO 0 4 m_listed_at_fraction_at (oC (cst (.str (PySem.Str.ofString "["))) (oC (cst (.str (PySem.Str.ofString "]"))) (oF 5 oN))))) (sCons (sIf (tAnd2 (tst (op2 iGt (vLen (vw 1)) (cst (.int 0)))) (tst (prp 0 m_Fraction_is_zero (ixV 1 (iNeg (cst (.int 1))))))) (sCons (sExpr (mtO 3 0 1 m_Cursor_refuse oN)) sNil) sNil) (sCons (sRet (cl1 (fnM 1 [] m_from_fractions) (aC (rd 1) aN))) sNil)))
def m_poly_at : En → Out D := mOf 2 [0] b_poly_at
theorem sc_poly_at : FnScope [(PySem.Str.ofString "cursor"), (PySem.Str.ofString "entries")] [(PySem.Str.ofString "cursor")] (defScope (top 37)) := ⟨rfl, rfl, rfl, by decide +kernel, rfl, by decide +kernel, by decide +kernel⟩
theorem ok_poly_at {P : Program} {w : World} {K : PySem.W.Frag} {mg : Str → Option Value} {base h : Heap} (E : Bd K mg h) : Got P w K mg base (T K) d_poly_at 9 [(PySem.Str.ofString "cursor")] m_poly_at := by
  obtain ⟨fd, F⟩ := E.c.def_ 27 (d := d_poly_at)
  obtain ⟨fd_listed_at_fraction_at, F_listed_at_fraction_at, G_listed_at_fraction_at⟩ := ok_listed_at_fraction_at (P := P) (w := w) (base := base) E
  obtain ⟨fd_Fraction_is_zero, F_Fraction_is_zero, G_Fraction_is_zero⟩ := ok_Fraction_is_zero (P := P) (w := w) (base := base) E
  obtain ⟨fd_Cursor_refuse, F_Cursor_refuse, G_Cursor_refuse⟩ := ok_Cursor_refuse (P := P) (w := w) (base := base) E
  obtain ⟨fd_from_fractions, F_from_fractions, G_from_fractions⟩ := ok_from_fractions (P := P) (w := w) (base := base) E
  have b_listed_at_fraction_at_4 : Dfl K (T K) fd_listed_at_fraction_at [(PySem.Str.ofString "cursor"), (PySem.Str.ofString "opening"), (PySem.Str.ofString "closing"), (PySem.Str.ofString "read_entry")] [] := dfl0 F_listed_at_fraction_at fun _ _ _ _ _ _ us hl => match us, hl with | [_, _, _, _], _ => rfl
  have b_Fraction_is_zero_1 : Dfl K (T K) fd_Fraction_is_zero [(PySem.Str.ofString "self")] [] := dfl0 F_Fraction_is_zero fun _ _ _ _ _ _ us hl => match us, hl with | [_], _ => rfl
  have b_Cursor_refuse_1 : Dfl K (T K) fd_Cursor_refuse [(PySem.Str.ofString "self")] [] := dfl0 F_Cursor_refuse fun _ _ _ _ _ _ us hl => match us, hl with | [_], _ => rfl
  have b_from_fractions_1 : Dfl K (T K) fd_from_fractions [(PySem.Str.ofString "fractions")] [] := dfl0 F_from_fractions fun _ _ _ _ _ _ us hl => match us, hl with | [_], _ => rfl
  have sc := sc_poly_at
  have F' : FunD K (PySem.Str.ofString "poly_at") (PySem.Str.ofString "poly_at") (defArgs (top 37)) (defBody (top 37)) (defScope (top 37)) (d_poly_at.dvs K) [] (adr K (.g (PySem.Str.ofString "poly_at"))) fd := F
  have z := @fn_okE P w K mg base _ _ _ _ _ _ _ _ fd (T K) [(PySem.Str.ofString "cursor"), (PySem.Str.ofString "entries")] [(PySem.Str.ofString "cursor")] 8 [0] b_poly_at F' sc rfl
  have z2 : _ → FnOk P w K mg base (L2.CX P w) 9 (adr K (.g (PySem.Str.ofString "poly_at"))) fd [(PySem.Str.ofString "cursor")] (spM K (T K) 1 m_poly_at) := z
  refine ⟨fd, F, z2 ?_⟩
  intro cdv A outer s H Ex X eX hr tk hp
  subst eX
  exact (zs_cons (z_set (i := 1) sc.nd rfl (Or.inl rfl) (pf_callO G_listed_at_fraction_at (hr.mono (by decide)) b_listed_at_fraction_at_4 tk rfl (glo_of E.X E.G E.f43) (keep_of E.f43) (pv 0) (ao_cons pf_str (ao_cons pf_str (ao_fn (n := 5) rfl (glo_of E.X E.G E.f42) ao_nil))))) (zs_cons (z_if (tf_w (wf_and (tf_cmp of_gt (pf_lenV (vf_v (pv 1)) rfl (free_of E.X E.G E.f0) bt_len) pf_int (by rfl)) (wf_and1 (tf_val (pf_prp (prp_of (c := 0) rfl E.f14 E.f44) G_Fraction_is_zero rfl (hr.mono (by decide)) b_Fraction_is_zero_1 (pf_ixV (pv 1) (pf_neg pf_int))))))) (zs_cons (z_expr (pf_mtO0 (mt_of (c := 3) rfl E.f25 E.f34) G_Cursor_refuse (hr.mono (by decide)) b_Cursor_refuse_1 tk (pv 0))) zs_nil) zs_nil) (zs_cons (z_ret (pf_call (kf_fn G_from_fractions (hr.mono (by decide)) b_from_fractions_1 tk) rfl (glo_of E.X E.G E.f52) (keep_of E.f52) (af_cons (pf_v (pv 1)) af_nil))) zs_nil)))
/-! listed_at@poly_at -/
def b_listed_at_poly_at : En → SOut := (sCons (sExpr (mtO 3 0 2 m_Cursor_take (oC (rd 1) oN))) (sCons (sSetN 4 (nLst aN)) (sCons (sIf (tst (op2 sNe (mtO 3 0 1 m_Cursor_ahead oN) (rd 2))) (sCons (sApp 4 (lcO 3 6 0 1 m_poly_at oN)) (sCons (whL (tst (op2 sEq (mtO 3 0 1 m_Cursor_ahead oN) (cst (.str (PySem.Str.ofString " "))))) (sCons (sExpr (mtO 3 0 2 m_Cursor_take (oC (cst (.str (PySem.Str.ofString " "))) oN))) (sCons (sApp 4 (lcO 3 6 0 1 m_poly_at oN)) sNil)) 1000000000) sNil)) sNil) (sCons (sExpr (mtO 3 0 2 m_Cursor_take (oC (rd 2) oN))) (sCons (sRet (rd 4)) sNil)))))
def m_listed_at_poly_at : En → Out D := mOf 5 [0] b_listed_at_poly_at
theorem sc_listed_at_poly_at : FnScope [(PySem.Str.ofString "cursor"), (PySem.Str.ofString "opening"), (PySem.Str.ofString "closing"), (PySem.Str.ofString "read_entry"), (PySem.Str.ofString "entries")] [(PySem.Str.ofString "cursor"), (PySem.Str.ofString "opening"), (PySem.Str.ofString "closing"), (PySem.Str.ofString "read_entry")] (defScope (top 34)) := ⟨rfl, rfl, rfl, by decide +kernel, rfl, by decide +kernel, by decide +kernel⟩
theorem ok_listed_at_poly_at {P : Program} {w : World} {K : PySem.W.Frag} {mg : Str → Option Value} {base h : Heap} (E : Bd K mg h) : Got P w K mg base (T K) d_listed_at_poly_at 10 [(PySem.Str.ofString "cursor"), (PySem.Str.ofString "opening"), (PySem.Str.ofString "closing"), (PySem.Str.ofString "read_entry")] m_listed_at_poly_at := by
  obtain ⟨fd, F⟩ := E.c.def_ 28 (d := d_listed_at_poly_at)
  obtain ⟨fd_Cursor_take, F_Cursor_take, G_Cursor_take⟩ := ok_Cursor_take (P := P) (w := w) (base := base) E
  obtain ⟨fd_Cursor_ahead, F_Cursor_ahead, G_Cursor_ahead⟩ := ok_Cursor_ahead (P := P) (w := w) (base := base) E
  obtain ⟨fd_poly_at, F_poly_at, G_poly_at⟩ := ok_poly_at (P := P) (w := w) (base := base) E
  have b_Cursor_take_2 : Dfl K (T K) fd_Cursor_take [(PySem.Str.ofString "self"), (PySem.Str.ofString "chars")] [] := dfl0 F_Cursor_take fun _ _ _ _ _ _ us hl => match us, hl with | [_, _], _ => rfl
  have b_Cursor_ahead_1 : Dfl K (T K) fd_Cursor_ahead [(PySem.Str.ofString "self")] [] := dfl0 F_Cursor_ahead fun _ _ _ _ _ _ us hl => match us, hl with | [_], _ => rfl
  have b_poly_at_1 : Dfl K (T K) fd_poly_at [(PySem.Str.ofString "cursor")] [] := dfl0 F_poly_at fun _ _ _ _ _ _ us hl => match us, hl with | [_], _ => rfl
  have sc := sc_listed_at_poly_at
  have F' : FunD K (PySem.Str.ofString "listed_at") (PySem.Str.ofString "listed_at") (defArgs (top 34)) (defBody (top 34)) (defScope (top 34)) (d_listed_at_poly_at.dvs K) [] (adr K (.g (PySem.Str.ofString "listed_at"))) fd := F
  have z := @fn_okE P w K mg base _ _ _ _ _ _ _ _ fd (T K) [(PySem.Str.ofString "cursor"), (PySem.Str.ofString "opening"), (PySem.Str.ofString "closing"), (PySem.Str.ofString "read_entry"), (PySem.Str.ofString "entries")] [(PySem.Str.ofString "cursor"), (PySem.Str.ofString "opening"), (PySem.Str.ofString "closing"), (PySem.Str.ofString "read_entry")] 9 [0] b_listed_at_poly_at F' sc rfl
  have z2 : _ → FnOk P w K mg base (L2.CX P w) 10 (adr K (.g (PySem.Str.ofString "listed_at"))) fd [(PySem.Str.ofString "cursor"), (PySem.Str.ofString "opening"), (PySem.Str.ofString "closing"), (PySem.Str.ofString "read_entry")] (spM K (T K) 4 m_listed_at_poly_at) := z
  refine ⟨fd, F, z2 ?_⟩
  intro cdv A outer s H Ex X eX hr tk hp
  subst eX
  exact (zs_cons (z_expr (pf_mtO (mt_of (c := 3) rfl E.f25 E.f37) G_Cursor_take (hr.mono (by decide)) b_Cursor_take_2 tk (pv 0) (ao_cons (pf_v (pv 1)) ao_nil))) (zs_cons (z_setN (i := 4) sc.nd rfl (Or.inl rfl) (pn_lst af_nil)) (zs_cons (z_if (tf_cmp of_ne (pf_mtO0 (mt_of (c := 3) rfl E.f25 E.f30) G_Cursor_ahead (hr.mono (by decide)) b_Cursor_ahead_1 tk (pv 0)) (pf_v (pv 2)) (by rfl)) (zs_cons (z_app (pv 4) (pf_lcO (kn := 6) G_poly_at (hr.mono (by decide)) b_poly_at_1 tk (pv 3) (keep_of E.f53) (pv 0) ao_nil)) (zs_cons (z_while 1000000000 hp (tf_cmp of_eq (pf_mtO0 (mt_of (c := 3) rfl E.f25 E.f30) G_Cursor_ahead (hr.mono (by decide)) b_Cursor_ahead_1 tk (pv 0)) pf_str (by rfl)) (zs_cons (z_expr (pf_mtO (mt_of (c := 3) rfl E.f25 E.f37) G_Cursor_take (hr.mono (by decide)) b_Cursor_take_2 tk (pv 0) (ao_cons pf_str ao_nil))) (zs_cons (z_app (pv 4) (pf_lcO (kn := 6) G_poly_at (hr.mono (by decide)) b_poly_at_1 tk (pv 3) (keep_of E.f53) (pv 0) ao_nil)) zs_nil))) zs_nil)) zs_nil) (zs_cons (z_expr (pf_mtO (mt_of (c := 3) rfl E.f25 E.f37) G_Cursor_take (hr.mono (by decide)) b_Cursor_take_2 tk (pv 0) (ao_cons (pf_v (pv 2)) ao_nil))) (zs_cons (z_ret (pf_v (pv 4))) zs_nil)))))
/-! Poly.is_zero -/
def b_Poly_is_zero : En → SOut := (sCons (sRet (op2 sEq (cl1 (fun ds => opt (kLen ds)) (aC (fld ft_coefs (rd 0)) aN)) (cst (.int 0)))) sNil)
def m_Poly_is_zero : En → Out D := mOf 1 [] b_Poly_is_zero
theorem sc_Poly_is_zero : FnScope [(PySem.Str.ofString "self")] [(PySem.Str.ofString "self")] (defScope (mem 13 4)) := ⟨rfl, rfl, rfl, by decide +kernel, rfl, by decide +kernel, by decide +kernel⟩
theorem ok_Poly_is_zero {P : Program} {w : World} {K : PySem.W.Frag} {mg : Str → Option Value} {base h : Heap} (E : Bd K mg h) : Got P w K mg base (T K) d_Poly_is_zero 1 [(PySem.Str.ofString "self")] m_Poly_is_zero := by
  obtain ⟨fd, F⟩ := E.c.def_ 29 (d := d_Poly_is_zero)
  have sc := sc_Poly_is_zero
  have F' : FunD K (PySem.Str.ofString "is_zero") (PySem.Str.ofString "Poly.is_zero") (defArgs (mem 13 4)) (defBody (mem 13 4)) (defScope (mem 13 4)) (d_Poly_is_zero.dvs K) [] (adr K (.p (PySem.Str.ofString "Poly") (PySem.Str.ofString "is_zero"))) fd := F
  have z := @fn_okE P w K mg base _ _ _ _ _ _ _ _ fd (T K) [(PySem.Str.ofString "self")] [(PySem.Str.ofString "self")] 0 [] b_Poly_is_zero F' sc rfl
  have z2 : _ → FnOk P w K mg base (L2.CX P w) 1 (adr K (.p (PySem.Str.ofString "Poly") (PySem.Str.ofString "is_zero"))) fd [(PySem.Str.ofString "self")] (spM K (T K) 1 m_Poly_is_zero) := z
  refine ⟨fd, F, z2 ?_⟩
  intro cdv A outer s H Ex X eX hr tk hp
  subst eX
  exact (zs_cons (z_ret (pf_cmp of_eq (pf_callB cf_len rfl (free_of E.X E.G E.f0) bt_len (af_cons (pf_fld E.tft_coefs (pf_v (pv 0))) af_nil)) pf_int (by rfl))) zs_nil)
/-! Operator.__init__ -/
def b_OperatorD_initD : En → SOut := (sCons (sSetN 2 (vw 1)) (sCons (whL (tAnd2 (tst (op2 iGt (vLen (vw 2)) (cst (.int 0)))) (tst (prp 1 m_Poly_is_zero (ixV 2 (iNeg (cst (.int 1))))))) (sCons (sExpr (popE 2)) sNil) 1000000000) (sCons (sFldS ft_coefs 0 (vTupO (vw 2))) sNil)))
def m_OperatorD_initD : En → Out D := mOf 3 [0] b_OperatorD_initD
theorem sc_OperatorD_initD : FnScope [(PySem.Str.ofString "self"), (PySem.Str.ofString "coefs"), (PySem.Str.ofString "kept")] [(PySem.Str.ofString "self"), (PySem.Str.ofString "coefs")] (defScope (mem 16 0)) := ⟨rfl, rfl, rfl, by decide +kernel, rfl, by decide +kernel, by decide +kernel⟩
theorem ok_OperatorD_initD {P : Program} {w : World} {K : PySem.W.Frag} {mg : Str → Option Value} {base h : Heap} (E : Bd K mg h) : Got P w K mg base (T K) d_OperatorD_initD 3 [(PySem.Str.ofString "self"), (PySem.Str.ofString "coefs")] m_OperatorD_initD := by
  obtain ⟨fd, F⟩ := E.c.def_ 30 (d := d_OperatorD_initD)
  obtain ⟨fd_Poly_is_zero, F_Poly_is_zero, G_Poly_is_zero⟩ := ok_Poly_is_zero (P := P) (w := w) (base := base) E
  have b_Poly_is_zero_1 : Dfl K (T K) fd_Poly_is_zero [(PySem.Str.ofString "self")] [] := dfl0 F_Poly_is_zero fun _ _ _ _ _ _ us hl => match us, hl with | [_], _ => rfl
  have sc := sc_OperatorD_initD
  have F' : FunD K (PySem.Str.ofString "__init__") (PySem.Str.ofString "Operator.__init__") (defArgs (mem 16 0)) (defBody (mem 16 0)) (defScope (mem 16 0)) (d_OperatorD_initD.dvs K) [] (adr K (.m (PySem.Str.ofString "Operator") (PySem.Str.ofString "__init__"))) fd := F
  have z := @fn_okE P w K mg base _ _ _ _ _ _ _ _ fd (T K) [(PySem.Str.ofString "self"), (PySem.Str.ofString "coefs"), (PySem.Str.ofString "kept")] [(PySem.Str.ofString "self"), (PySem.Str.ofString "coefs")] 2 [0] b_OperatorD_initD F' sc rfl
  have z2 : _ → FnOk P w K mg base (L2.CX P w) 3 (adr K (.m (PySem.Str.ofString "Operator") (PySem.Str.ofString "__init__"))) fd [(PySem.Str.ofString "self"), (PySem.Str.ofString "coefs")] (spM K (T K) 2 m_OperatorD_initD) := z
  refine ⟨fd, F, z2 ?_⟩
  intro cdv A outer s H Ex X eX hr tk hp
  subst eX
  exact (zs_cons (z_setN (i := 2) sc.nd rfl (Or.inl rfl) (pn_listV (vf_v (pv 1)) rfl (free_of E.X E.G E.f46) bt_list)) (zs_cons (z_while 1000000000 hp (tf_w (wf_and (tf_cmp of_gt (pf_lenV (vf_v (pv 2)) rfl (free_of E.X E.G E.f0) bt_len) pf_int (by rfl)) (wf_and1 (tf_val (pf_prp (prp_of (c := 1) rfl E.f10 E.f54) G_Poly_is_zero rfl (hr.mono (by decide)) b_Poly_is_zero_1 (pf_ixV (pv 2) (pf_neg pf_int))))))) (zs_cons (z_expr (pf_pop (pv 2))) zs_nil)) (zs_cons (z_fld E.tft_coefs (fun c _ _ => ct_len (by rfl) c) (pv 0) (pf_tupV (vf_v (pv 2)) rfl (free_of E.X E.G E.f49) bt_tuple)) zs_nil)))
/-! operator_at -/
def b_operator_at : En → SOut := (sCons (sSet 1 (clO 0 4 m_listed_at_poly_at (oC (cst (.str (PySem.Str.ofString "<"))) (oC (cst (.str (PySem.Str.ofString ">"))) (oF 6 oN))))) (sCons (sIf (tAnd2 (tst (op2 iGt (vLen (vw 1)) (cst (.int 0)))) (tst (prp 1 m_Poly_is_zero (ixV 1 (iNeg (cst (.int 1))))))) (sCons (sExpr (mtO 3 0 1 m_Cursor_refuse oN)) sNil) sNil) (sCons (sRet (cl1 (mkM 2 1 2 [] m_OperatorD_initD) (aC (rd 1) aN))) sNil)))
def m_operator_at : En → Out D := mOf 2 [0] b_operator_at
theorem sc_operator_at : FnScope [(PySem.Str.ofString "cursor"), (PySem.Str.ofString "entries")] [(PySem.Str.ofString "cursor")] (defScope (top 39)) := ⟨rfl, rfl, rfl, by decide +kernel, rfl, by decide +kernel, by decide +kernel⟩
theorem ok_operator_at {P : Program} {w : World} {K : PySem.W.Frag} {mg : Str → Option Value} {base h : Heap} (E : Bd K mg h) : Got P w K mg base (T K) d_operator_at 11 [(PySem.Str.ofString "cursor")] m_operator_at := by
  obtain ⟨fd, F⟩ := E.c.def_ 31 (d := d_operator_at)
  obtain ⟨fd_listed_at_poly_at, F_listed_at_poly_at, G_listed_at_poly_at⟩ := ok_listed_at_poly_at (P := P) (w := w) (base := base) E
  obtain ⟨fd_Poly_is_zero, F_Poly_is_zero, G_Poly_is_zero⟩ := ok_Poly_is_zero (P := P) (w := w) (base := base) E
  obtain ⟨fd_Cursor_refuse, F_Cursor_refuse, G_Cursor_refuse⟩ := ok_Cursor_refuse (P := P) (w := w) (base := base) E
  obtain ⟨fd_OperatorD_initD, F_OperatorD_initD, G_OperatorD_initD⟩ := ok_OperatorD_initD (P := P) (w := w) (base := base) E
  have b_listed_at_poly_at_4 : Dfl K (T K) fd_listed_at_poly_at [(PySem.Str.ofString "cursor"), (PySem.Str.ofString "opening"), (PySem.Str.ofString "closing"), (PySem.Str.ofString "read_entry")] [] := dfl0 F_listed_at_poly_at fun _ _ _ _ _ _ us hl => match us, hl with | [_, _, _, _], _ => rfl
  have b_Poly_is_zero_1 : Dfl K (T K) fd_Poly_is_zero [(PySem.Str.ofString "self")] [] := dfl0 F_Poly_is_zero fun _ _ _ _ _ _ us hl => match us, hl with | [_], _ => rfl
  have b_Cursor_refuse_1 : Dfl K (T K) fd_Cursor_refuse [(PySem.Str.ofString "self")] [] := dfl0 F_Cursor_refuse fun _ _ _ _ _ _ us hl => match us, hl with | [_], _ => rfl
  have b_OperatorD_initD_2 : Dfl K (T K) fd_OperatorD_initD [(PySem.Str.ofString "self"), (PySem.Str.ofString "coefs")] [] := dfl0 F_OperatorD_initD fun _ _ _ _ _ _ us hl => match us, hl with | [_, _], _ => rfl
  have sc := sc_operator_at
  have F' : FunD K (PySem.Str.ofString "operator_at") (PySem.Str.ofString "operator_at") (defArgs (top 39)) (defBody (top 39)) (defScope (top 39)) (d_operator_at.dvs K) [] (adr K (.g (PySem.Str.ofString "operator_at"))) fd := F
  have z := @fn_okE P w K mg base _ _ _ _ _ _ _ _ fd (T K) [(PySem.Str.ofString "cursor"), (PySem.Str.ofString "entries")] [(PySem.Str.ofString "cursor")] 10 [0] b_operator_at F' sc rfl
  have z2 : _ → FnOk P w K mg base (L2.CX P w) 11 (adr K (.g (PySem.Str.ofString "operator_at"))) fd [(PySem.Str.ofString "cursor")] (spM K (T K) 1 m_operator_at) := z
  refine ⟨fd, F, z2 ?_⟩
  intro cdv A outer s H Ex X eX hr tk hp
  subst eX
  exact (zs_cons (z_set (i := 1) sc.nd rfl (Or.inl rfl) (pf_callO G_listed_at_poly_at (hr.mono (by decide)) b_listed_at_poly_at_4 tk rfl (glo_of E.X E.G E.f43) (keep_of E.f43) (pv 0) (ao_cons pf_str (ao_cons pf_str (ao_fn (n := 6) rfl (glo_of E.X E.G E.f53) ao_nil))))) (zs_cons (z_if (tf_w (wf_and (tf_cmp of_gt (pf_lenV (vf_v (pv 1)) rfl (free_of E.X E.G E.f0) bt_len) pf_int (by rfl)) (wf_and1 (tf_val (pf_prp (prp_of (c := 1) rfl E.f10 E.f54) G_Poly_is_zero rfl (hr.mono (by decide)) b_Poly_is_zero_1 (pf_ixV (pv 1) (pf_neg pf_int))))))) (zs_cons (z_expr (pf_mtO0 (mt_of (c := 3) rfl E.f25 E.f34) G_Cursor_refuse (hr.mono (by decide)) b_Cursor_refuse_1 tk (pv 0))) zs_nil) zs_nil) (zs_cons (z_ret (pf_call (kf_mk (mk_of (c := 2) rfl E.f55) G_OperatorD_initD (hr.mono (by decide)) b_OperatorD_initD_2 tk) rfl (glo_of E.X E.G E.f56) (keep_of E.f56) (af_cons (pf_v (pv 1)) af_nil))) zs_nil)))
/-! equal_at -/
def b_equal_at : En → SOut := (sCons (sSet 1 (clO 0 1 m_operator_at oN)) (sCons (sExpr (mtO 3 0 2 m_Cursor_take (oC (cst (.str (PySem.Str.ofString " "))) oN))) (sCons (sRet (vTup (aC (cst (.str (PySem.Str.ofString "equal"))) (aC (rd 1) (aC (clO 0 1 m_operator_at oN) aN))))) sNil)))
def m_equal_at : En → Out D := mOf 2 [0] b_equal_at
theorem sc_equal_at : FnScope [(PySem.Str.ofString "cursor"), (PySem.Str.ofString "left")] [(PySem.Str.ofString "cursor")] (defScope (top 46)) := ⟨rfl, rfl, rfl, by decide +kernel, rfl, by decide +kernel, by decide +kernel⟩
theorem ok_equal_at {P : Program} {w : World} {K : PySem.W.Frag} {mg : Str → Option Value} {base h : Heap} (E : Bd K mg h) : Got P w K mg base (T K) d_equal_at 12 [(PySem.Str.ofString "cursor")] m_equal_at := by
  obtain ⟨fd, F⟩ := E.c.def_ 32 (d := d_equal_at)
  obtain ⟨fd_operator_at, F_operator_at, G_operator_at⟩ := ok_operator_at (P := P) (w := w) (base := base) E
  obtain ⟨fd_Cursor_take, F_Cursor_take, G_Cursor_take⟩ := ok_Cursor_take (P := P) (w := w) (base := base) E
  have b_operator_at_1 : Dfl K (T K) fd_operator_at [(PySem.Str.ofString "cursor")] [] := dfl0 F_operator_at fun _ _ _ _ _ _ us hl => match us, hl with | [_], _ => rfl
  have b_Cursor_take_2 : Dfl K (T K) fd_Cursor_take [(PySem.Str.ofString "self"), (PySem.Str.ofString "chars")] [] := dfl0 F_Cursor_take fun _ _ _ _ _ _ us hl => match us, hl with | [_, _], _ => rfl
  have sc := sc_equal_at
  have F' : FunD K (PySem.Str.ofString "equal_at") (PySem.Str.ofString "equal_at") (defArgs (top 46)) (defBody (top 46)) (defScope (top 46)) (d_equal_at.dvs K) [] (adr K (.g (PySem.Str.ofString "equal_at"))) fd := F
  have z := @fn_okE P w K mg base _ _ _ _ _ _ _ _ fd (T K) [(PySem.Str.ofString "cursor"), (PySem.Str.ofString "left")] [(PySem.Str.ofString "cursor")] 11 [0] b_equal_at F' sc rfl
  have z2 : _ → FnOk P w K mg base (L2.CX P w) 12 (adr K (.g (PySem.Str.ofString "equal_at"))) fd [(PySem.Str.ofString "cursor")] (spM K (T K) 1 m_equal_at) := z
  refine ⟨fd, F, z2 ?_⟩
  intro cdv A outer s H Ex X eX hr tk hp
  subst eX
  exact (zs_cons (z_set (i := 1) sc.nd rfl (Or.inl rfl) (pf_callO G_operator_at (hr.mono (by decide)) b_operator_at_1 tk rfl (glo_of E.X E.G E.f57) (keep_of E.f57) (pv 0) ao_nil)) (zs_cons (z_expr (pf_mtO (mt_of (c := 3) rfl E.f25 E.f37) G_Cursor_take (hr.mono (by decide)) b_Cursor_take_2 tk (pv 0) (ao_cons pf_str ao_nil))) (zs_cons (z_ret (pf_tup (af_cons pf_str (af_cons (pf_v (pv 1)) (af_cons (pf_callO G_operator_at (hr.mono (by decide)) b_operator_at_1 tk rfl (glo_of E.X E.G E.f57) (keep_of E.f57) (pv 0) ao_nil) af_nil))))) zs_nil)))
/-! certificate_at -/
def b_certificate_at : En → SOut := (sCons (sSet 1 (mtO 3 0 2 m_Cursor_take_word (oC (cst (.tup (([(PySem.Str.ofString "closed"), (PySem.Str.ofString "open"), (PySem.Str.ofString "recurrence"), (PySem.Str.ofString "none"), (PySem.Str.ofString "equal"), (PySem.Str.ofString "different")] : List Str).map D.str))) oN))) (sCons (sIf (tst (op2 sEq (rd 1) (cst (.str (PySem.Str.ofString "closed"))))) (sCons sEr sNil) sNil) (sCons (sIf (tst (op2 sEq (rd 1) (cst (.str (PySem.Str.ofString "open"))))) (sCons sEr sNil) sNil) (sCons (sIf (tst (op2 sEq (rd 1) (cst (.str (PySem.Str.ofString "recurrence"))))) (sCons sEr sNil) sNil) (sCons (sIf (tst (op2 sEq (rd 1) (cst (.str (PySem.Str.ofString "none"))))) (sCons sEr sNil) sNil) (sCons (sIf (tst (op2 sEq (rd 1) (cst (.str (PySem.Str.ofString "equal"))))) (sCons (sRet (clO 0 1 m_equal_at oN)) sNil) sNil) (sCons (sRet (vTup (aC (cst (.str (PySem.Str.ofString "different"))) (aC (clO 0 1 m_count_at oN) aN)))) sNil)))))))
def m_certificate_at : En → Out D := mOf 2 [0] b_certificate_at
theorem sc_certificate_at : FnScope [(PySem.Str.ofString "cursor"), (PySem.Str.ofString "kind")] [(PySem.Str.ofString "cursor")] (defScope (top 47)) := ⟨rfl, rfl, rfl, by decide +kernel, rfl, by decide +kernel, by decide +kernel⟩
theorem ok_certificate_at {P : Program} {w : World} {K : PySem.W.Frag} {mg : Str → Option Value} {base h : Heap} (E : Bd K mg h) : Got P w K mg base (T K) d_certificate_at 13 [(PySem.Str.ofString "cursor")] m_certificate_at := by
  obtain ⟨fd, F⟩ := E.c.def_ 33 (d := d_certificate_at)
  obtain ⟨fd_Cursor_take_word, F_Cursor_take_word, G_Cursor_take_word⟩ := ok_Cursor_take_word (P := P) (w := w) (base := base) E
  obtain ⟨fd_equal_at, F_equal_at, G_equal_at⟩ := ok_equal_at (P := P) (w := w) (base := base) E
  obtain ⟨fd_count_at, F_count_at, G_count_at⟩ := ok_count_at (P := P) (w := w) (base := base) E
  have b_Cursor_take_word_2 : Dfl K (T K) fd_Cursor_take_word [(PySem.Str.ofString "self"), (PySem.Str.ofString "words")] [] := dfl0 F_Cursor_take_word fun _ _ _ _ _ _ us hl => match us, hl with | [_, _], _ => rfl
  have b_equal_at_1 : Dfl K (T K) fd_equal_at [(PySem.Str.ofString "cursor")] [] := dfl0 F_equal_at fun _ _ _ _ _ _ us hl => match us, hl with | [_], _ => rfl
  have b_count_at_1 : Dfl K (T K) fd_count_at [(PySem.Str.ofString "cursor")] [] := dfl0 F_count_at fun _ _ _ _ _ _ us hl => match us, hl with | [_], _ => rfl
  have sc := sc_certificate_at
  have F' : FunD K (PySem.Str.ofString "certificate_at") (PySem.Str.ofString "certificate_at") (defArgs (top 47)) (defBody (top 47)) (defScope (top 47)) (d_certificate_at.dvs K) [] (adr K (.g (PySem.Str.ofString "certificate_at"))) fd := F
  have z := @fn_okE P w K mg base _ _ _ _ _ _ _ _ fd (T K) [(PySem.Str.ofString "cursor"), (PySem.Str.ofString "kind")] [(PySem.Str.ofString "cursor")] 12 [0] b_certificate_at F' sc rfl
  have z2 : _ → FnOk P w K mg base (L2.CX P w) 13 (adr K (.g (PySem.Str.ofString "certificate_at"))) fd [(PySem.Str.ofString "cursor")] (spM K (T K) 1 m_certificate_at) := z
  refine ⟨fd, F, z2 ?_⟩
  intro cdv A outer s H Ex X eX hr tk hp
  subst eX
  exact (zs_cons (z_set (i := 1) sc.nd rfl (Or.inl rfl) (pf_mtO (mt_of (c := 3) rfl E.f25 E.f35) G_Cursor_take_word (hr.mono (by decide)) b_Cursor_take_word_2 tk (pv 0) (ao_cons (pf_gt E.X E.G E.f36 rfl) ao_nil))) (zs_cons (z_if (tf_cmp of_eq (pf_v (pv 1)) pf_str (by rfl)) (zs_cons z_never zs_nil) zs_nil) (zs_cons (z_if (tf_cmp of_eq (pf_v (pv 1)) pf_str (by rfl)) (zs_cons z_never zs_nil) zs_nil) (zs_cons (z_if (tf_cmp of_eq (pf_v (pv 1)) pf_str (by rfl)) (zs_cons z_never zs_nil) zs_nil) (zs_cons (z_if (tf_cmp of_eq (pf_v (pv 1)) pf_str (by rfl)) (zs_cons z_never zs_nil) zs_nil) (zs_cons (z_if (tf_cmp of_eq (pf_v (pv 1)) pf_str (by rfl)) (zs_cons (z_ret (pf_callO G_equal_at (hr.mono (by decide)) b_equal_at_1 tk rfl (glo_of E.X E.G E.f58) (keep_of E.f58) (pv 0) ao_nil)) zs_nil) zs_nil) (zs_cons (z_ret (pf_tup (af_cons pf_str (af_cons (pf_callO G_count_at (hr.mono (by decide)) b_count_at_1 tk rfl (glo_of E.X E.G E.f40) (keep_of E.f40) (pv 0) ao_nil) af_nil)))) zs_nil)))))))
/-! Cursor.finish -/
def b_Cursor_finish : En → SOut := (sCons (sIf (tst (op2 iLt (fldV ft_place 0) (cl1 (fun ds => opt (kLen ds)) (aC (fldV ft_text 0) aN)))) (sCons (sExpr (mtO 3 0 1 m_Cursor_refuse oN)) sNil) sNil) sNil)
def m_Cursor_finish : En → Out D := mOf 1 [0] b_Cursor_finish
theorem sc_Cursor_finish : FnScope [(PySem.Str.ofString "self")] [(PySem.Str.ofString "self")] (defScope (mem 29 5)) := ⟨rfl, rfl, rfl, by decide +kernel, rfl, by decide +kernel, by decide +kernel⟩
theorem ok_Cursor_finish {P : Program} {w : World} {K : PySem.W.Frag} {mg : Str → Option Value} {base h : Heap} (E : Bd K mg h) : Got P w K mg base (T K) d_Cursor_finish 4 [(PySem.Str.ofString "self")] m_Cursor_finish := by
  obtain ⟨fd, F⟩ := E.c.def_ 34 (d := d_Cursor_finish)
  obtain ⟨fd_Cursor_refuse, F_Cursor_refuse, G_Cursor_refuse⟩ := ok_Cursor_refuse (P := P) (w := w) (base := base) E
  have b_Cursor_refuse_1 : Dfl K (T K) fd_Cursor_refuse [(PySem.Str.ofString "self")] [] := dfl0 F_Cursor_refuse fun _ _ _ _ _ _ us hl => match us, hl with | [_], _ => rfl
  have sc := sc_Cursor_finish
  have F' : FunD K (PySem.Str.ofString "finish") (PySem.Str.ofString "Cursor.finish") (defArgs (mem 29 5)) (defBody (mem 29 5)) (defScope (mem 29 5)) (d_Cursor_finish.dvs K) [] (adr K (.m (PySem.Str.ofString "Cursor") (PySem.Str.ofString "finish"))) fd := F
  have z := @fn_okE P w K mg base _ _ _ _ _ _ _ _ fd (T K) [(PySem.Str.ofString "self")] [(PySem.Str.ofString "self")] 3 [0] b_Cursor_finish F' sc rfl
  have z2 : _ → FnOk P w K mg base (L2.CX P w) 4 (adr K (.m (PySem.Str.ofString "Cursor") (PySem.Str.ofString "finish"))) fd [(PySem.Str.ofString "self")] (spM K (T K) 1 m_Cursor_finish) := z
  refine ⟨fd, F, z2 ?_⟩
  intro cdv A outer s H Ex X eX hr tk hp
  subst eX
  exact (zs_cons (z_if (tf_cmp of_lt (pf_fldV E.tft_place (pv 0)) (pf_callB cf_len rfl (free_of E.X E.G E.f0) bt_len (af_cons (pf_fldV E.tft_text (pv 0)) af_nil)) (by rfl)) (zs_cons (z_expr (pf_mtO0 (mt_of (c := 3) rfl E.f25 E.f34) G_Cursor_refuse (hr.mono (by decide)) b_Cursor_refuse_1 tk (pv 0))) zs_nil) zs_nil) zs_nil)
/-! read_certificate -/
def b_read_certificate : En → SOut := (sCons (sMkI 1 3 2 m_CursorD_initD (aC (rd 0) aN)) (sCons (sSet 2 (clO 1 1 m_certificate_at oN)) (sCons (sExpr (mtO 3 1 1 m_Cursor_finish oN)) (sCons (sRet (rd 2)) sNil))))
def m_read_certificate : En → Out D := mOf 3 [] b_read_certificate
theorem sc_read_certificate : FnScope [(PySem.Str.ofString "text"), (PySem.Str.ofString "cursor"), (PySem.Str.ofString "certificate")] [(PySem.Str.ofString "text")] (defScope (top 48)) := ⟨rfl, rfl, rfl, by decide +kernel, rfl, by decide +kernel, by decide +kernel⟩
theorem ok_read_certificate {P : Program} {w : World} {K : PySem.W.Frag} {mg : Str → Option Value} {base h : Heap} (E : Bd K mg h) : Got P w K mg base (T K) d_read_certificate 14 [(PySem.Str.ofString "text")] m_read_certificate := by
  obtain ⟨fd, F⟩ := E.c.def_ 35 (d := d_read_certificate)
  obtain ⟨fd_CursorD_initD, F_CursorD_initD, G_CursorD_initD⟩ := ok_CursorD_initD (P := P) (w := w) (base := base) E
  obtain ⟨fd_certificate_at, F_certificate_at, G_certificate_at⟩ := ok_certificate_at (P := P) (w := w) (base := base) E
  obtain ⟨fd_Cursor_finish, F_Cursor_finish, G_Cursor_finish⟩ := ok_Cursor_finish (P := P) (w := w) (base := base) E
  have b_CursorD_initD_2 : Dfl K (T K) fd_CursorD_initD [(PySem.Str.ofString "self"), (PySem.Str.ofString "text")] [] := dfl0 F_CursorD_initD fun _ _ _ _ _ _ us hl => match us, hl with | [_, _], _ => rfl
  have b_certificate_at_1 : Dfl K (T K) fd_certificate_at [(PySem.Str.ofString "cursor")] [] := dfl0 F_certificate_at fun _ _ _ _ _ _ us hl => match us, hl with | [_], _ => rfl
  have b_Cursor_finish_1 : Dfl K (T K) fd_Cursor_finish [(PySem.Str.ofString "self")] [] := dfl0 F_Cursor_finish fun _ _ _ _ _ _ us hl => match us, hl with | [_], _ => rfl
  have sc := sc_read_certificate
  have F' : FunD K (PySem.Str.ofString "read_certificate") (PySem.Str.ofString "read_certificate") (defArgs (top 48)) (defBody (top 48)) (defScope (top 48)) (d_read_certificate.dvs K) [] (adr K (.g (PySem.Str.ofString "read_certificate"))) fd := F
  have z := @fn_okE P w K mg base _ _ _ _ _ _ _ _ fd (T K) [(PySem.Str.ofString "text"), (PySem.Str.ofString "cursor"), (PySem.Str.ofString "certificate")] [(PySem.Str.ofString "text")] 13 [] b_read_certificate F' sc rfl
  have z2 : _ → FnOk P w K mg base (L2.CX P w) 14 (adr K (.g (PySem.Str.ofString "read_certificate"))) fd [(PySem.Str.ofString "text")] (spM K (T K) 1 m_read_certificate) := z
  refine ⟨fd, F, z2 ?_⟩
  intro cdv A outer s H Ex X eX hr tk hp
  subst eX
  exact (zs_cons (z_mkI (i := 1) (c := 3) (mk_of (c := 3) rfl E.f28) G_CursorD_initD (hr.mono (by decide)) b_CursorD_initD_2 tk rfl (glo_of E.X E.G E.f29) (keep_of E.f29) (af_cons (pf_v (pv 0)) af_nil) sc.nd rfl (Or.inl rfl)) (zs_cons (z_set (i := 2) sc.nd rfl (Or.inl rfl) (pf_callO G_certificate_at (hr.mono (by decide)) b_certificate_at_1 tk rfl (glo_of E.X E.G E.f59) (keep_of E.f59) (pv 1) ao_nil)) (zs_cons (z_expr (pf_mtO0 (mt_of (c := 3) rfl E.f25 E.f60) G_Cursor_finish (hr.mono (by decide)) b_Cursor_finish_1 tk (pv 1))) (zs_cons (z_ret (pf_v (pv 2))) zs_nil))))
/-! law -/
def b_law : En → SOut := (sCons (sSet 1 (cl1 (fnM 2 [] m__law_numbers) (aC (rd 0) (aC (cst (.int 50)) aN)))) (sCons (sSet 2 (op2 iMod (ixV 1 (cst (.int 0))) (cst (.int 10)))) (sCons (sSetN 3 (nLst (aC (rd 2) (aC (op2 iAdd (op2 iMod (ixV 1 (cst (.int 1))) (cst (.int 4))) (cst (.int 2))) aN)))) (sCons (sSet 4 (cst (.str (PySem.Str.ofString "equal")))) (sCons (sSet 5 (cst (.str (PySem.Str.ofString "equal")))) (sCons (sSet 6 (iNeg (cst (.int 1)))) (sCons (sSetN 7 (nLst (aC (op2 iAdd (op2 iMod (ixV 1 (cst (.int 2))) (cst (.int 3))) (cst (.int 1))) (aC (op2 iAdd (op2 iMod (ixV 1 (cst (.int 3))) (cst (.int 3))) (cst (.int 1))) aN)))) (sCons (sSet 8 (op2 iMod (ixV 1 (cst (.int 4))) (op2 iAdd (ixV 7 (cst (.int 0))) (ixV 7 (cst (.int 1)))))) (sCons (sSet 9 (cst (.int 0))) (sCons (sFor (itR1 (aC (cst (.int 2)) aN)) (gN 10) (sCons (sSet 4 (op2 tAddS (rd 4) (cst (.str (PySem.Str.ofString " <"))))) (sCons (sSet 5 (op2 tAddS (rd 5) (cst (.str (PySem.Str.ofString " <"))))) (sCons (sFor (itR1 (aC (ixV 7 (rd 10)) aN)) (gN 11) (sCons (sIf (tst (op2 iGt (rd 11) (cst (.int 0)))) (sCons (sSet 4 (op2 tAddS (rd 4) (cst (.str (PySem.Str.ofString " "))))) (sCons (sSet 5 (op2 tAddS (rd 5) (cst (.str (PySem.Str.ofString " "))))) sNil)) sNil) (sCons (sSet 12 (op2 iAdd (cst (.int 5)) (op2 iMul (cst (.int 7)) (rd 9)))) (sCons (sSet 13 (cl1 (fnM 4 [] m__law_poly) (aC (rd 1) (aC (rd 12) (aC (cst (.int 0)) (aC (fz (nLst aN)) aN)))))) (sCons (sSet 14 (rd 13)) (sCons (sIf (tAnd2 (tst (op2 sEq (rd 9) (rd 8))) (tst (op2 iLt (rd 2) (cst (.int 8))))) (sCons (sSet 14 (cl1 (fnM 4 [] m__law_poly) (aC (rd 1) (aC (rd 12) (aC (op2 iDiv (ixV 1 (cst (.int 1))) (cst (.int 4))) (aC (rd 3) aN)))))) (sCons (sSet 6 (op2 iAdd (cl1 (fun ds => opt (kLen ds)) (aC (rd 4) aN)) (ix (rd 14) (cst (.int 1))))) sNil)) sNil) (sCons (sSet 4 (op2 tAddS (rd 4) (ix (rd 14) (cst (.int 0))))) (sCons (sSet 5 (op2 tAddS (rd 5) (ix (rd 13) (cst (.int 0))))) (sCons (sSet 9 (op2 iAdd (rd 9) (cst (.int 1)))) sNil))))))))) (sCons (sIf (tAnd2 (tst (op2 sEq (rd 2) (cst (.int 8)))) (tst (op2 sEq (rd 10) (op2 iMod (rd 8) (cst (.int 2)))))) (sCons (sSet 4 (op2 tAddS (rd 4) (cst (.str (PySem.Str.ofString " []"))))) (sCons (sSet 6 (op2 iAdd (cl1 (fun ds => opt (kLen ds)) (aC (rd 4) aN)) (cst (.int 1)))) sNil)) sNil) (sCons (sIf (tAnd2 (tst (op2 sEq (rd 2) (cst (.int 9)))) (tst (op2 sEq (rd 10) (op2 iMod (rd 8) (cst (.int 2)))))) (sCons (sSet 4 (op2 tAddS (rd 4) (cst (.str (PySem.Str.ofString " "))))) (sCons (sSet 6 (cl1 (fun ds => opt (kLen ds)) (aC (rd 4) aN))) sNil)) sNil) (sCons (sSet 4 (op2 tAddS (rd 4) (cst (.str (PySem.Str.ofString ">"))))) (sCons (sSet 5 (op2 tAddS (rd 5) (cst (.str (PySem.Str.ofString ">"))))) sNil)))))))) (sCons (sIf (tst (op2 sNe (cl1 (fnM 1 [] m_write_certificate) (aC (cl1 (fnM 1 [] m_read_certificate) (aC (rd 5) aN)) aN)) (rd 5))) (sCons (sRet (cst (.bl false))) sNil) sNil) (sCons (sTry 15 (List.range 16) xt_InvalidText (sCons (sExpr (cl1 (fnM 1 [] m_read_certificate) (aC (rd 4) aN))) sNil) (sCons (sRet (vAnd2 (isi1 (kIsT "int" [0, 1, 2, 3]) (exf xf_where 15)) (vAnd2 (vNot1 (isi1 (kIsT "bool" [0, 1, 2, 3]) (exf xf_where 15))) (op2 sEq (exf xf_where 15) (rd 6))))) sNil)) (sCons (sRet (cst (.bl false))) sNil)))))))))))))
def m_law : En → Out D := mOf 16 [] b_law
theorem sc_law : FnScope [(PySem.Str.ofString "_law_script"), (PySem.Str.ofString "_law_numbers_here"), (PySem.Str.ofString "_law_choice"), (PySem.Str.ofString "_law_spoilt_here"), (PySem.Str.ofString "_law_text"), (PySem.Str.ofString "_law_whole"), (PySem.Str.ofString "_law_where"), (PySem.Str.ofString "_law_counts"), (PySem.Str.ofString "_law_target"), (PySem.Str.ofString "_law_index"), (PySem.Str.ofString "_law_side"), (PySem.Str.ofString "_law_i"), (PySem.Str.ofString "_law_place"), (PySem.Str.ofString "_law_plain"), (PySem.Str.ofString "_law_made"), (PySem.Str.ofString "e")] [(PySem.Str.ofString "_law_script")] (defScope (top 65)) := ⟨rfl, rfl, rfl, by decide +kernel, rfl, by decide +kernel, by decide +kernel⟩
theorem ok_law {P : Program} {w : World} {K : PySem.W.Frag} {mg : Str → Option Value} {base h : Heap} (E : Bd K mg h) : Got P w K mg base (T K) d_law 15 [(PySem.Str.ofString "_law_script")] m_law := by
  obtain ⟨fd, F⟩ := E.c.def_ 36 (d := d_law)
  obtain ⟨fd__law_numbers, F__law_numbers, G__law_numbers⟩ := ok__law_numbers (P := P) (w := w) (base := base) E
  obtain ⟨fd__law_poly, F__law_poly, G__law_poly⟩ := ok__law_poly (P := P) (w := w) (base := base) E
  obtain ⟨fd_write_certificate, F_write_certificate, G_write_certificate⟩ := ok_write_certificate (P := P) (w := w) (base := base) E
  obtain ⟨fd_read_certificate, F_read_certificate, G_read_certificate⟩ := ok_read_certificate (P := P) (w := w) (base := base) E
  have b__law_numbers_2 : Dfl K (T K) fd__law_numbers [(PySem.Str.ofString "_law_script"), (PySem.Str.ofString "_law_count")] [] := dfl0 F__law_numbers fun _ _ _ _ _ _ us hl => match us, hl with | [_, _], _ => rfl
  have b__law_poly_4 : Dfl K (T K) fd__law_poly [(PySem.Str.ofString "_law_numbers_here"), (PySem.Str.ofString "_law_place"), (PySem.Str.ofString "_law_spot"), (PySem.Str.ofString "_law_spoilt_here")] [] := dfl0 F__law_poly fun _ _ _ _ _ _ us hl => match us, hl with | [_, _, _, _], _ => rfl
  have b_write_certificate_1 : Dfl K (T K) fd_write_certificate [(PySem.Str.ofString "certificate")] [] := dfl0 F_write_certificate fun _ _ _ _ _ _ us hl => match us, hl with | [_], _ => rfl
  have b_read_certificate_1 : Dfl K (T K) fd_read_certificate [(PySem.Str.ofString "text")] [] := dfl0 F_read_certificate fun _ _ _ _ _ _ us hl => match us, hl with | [_], _ => rfl
  have hx_xt_InvalidText_where : ∀ c, xt_InvalidText c = some true → XfC K ((T K).cl c) ∧ PySem.W.findIn K (.ref ((T K).cl c)) (PySem.Str.ofString "where") = some none := by
    intro c et
    unfold xt_InvalidText at et
    split at et
    · exact ⟨by rw [fn_cl (C := (PySem.Str.ofString "InvalidText")) rfl]; exact xfB_ok E.f64, by rw [fn_cl (C := (PySem.Str.ofString "InvalidText")) rfl]; exact xno_of E.f32⟩
    · cases et
  have sc := sc_law
  have F' : FunD K (PySem.Str.ofString "law") (PySem.Str.ofString "law") (defArgs (top 65)) (defBody (top 65)) (defScope (top 65)) (d_law.dvs K) [] (adr K (.g (PySem.Str.ofString "law"))) fd := F
  have z := @fn_okE P w K mg base _ _ _ _ _ _ _ _ fd (T K) [(PySem.Str.ofString "_law_script"), (PySem.Str.ofString "_law_numbers_here"), (PySem.Str.ofString "_law_choice"), (PySem.Str.ofString "_law_spoilt_here"), (PySem.Str.ofString "_law_text"), (PySem.Str.ofString "_law_whole"), (PySem.Str.ofString "_law_where"), (PySem.Str.ofString "_law_counts"), (PySem.Str.ofString "_law_target"), (PySem.Str.ofString "_law_index"), (PySem.Str.ofString "_law_side"), (PySem.Str.ofString "_law_i"), (PySem.Str.ofString "_law_place"), (PySem.Str.ofString "_law_plain"), (PySem.Str.ofString "_law_made"), (PySem.Str.ofString "e")] [(PySem.Str.ofString "_law_script")] 14 [] b_law F' sc rfl
  have z2 : _ → FnOk P w K mg base (L2.CX P w) 15 (adr K (.g (PySem.Str.ofString "law"))) fd [(PySem.Str.ofString "_law_script")] (spM K (T K) 1 m_law) := z
  refine ⟨fd, F, z2 ?_⟩
  intro cdv A outer s H Ex X eX hr tk hp
  subst eX
  exact (zs_cons (z_set (i := 1) sc.nd rfl (Or.inl rfl) (pf_call (kf_fn G__law_numbers (hr.mono (by decide)) b__law_numbers_2 tk) rfl (glo_of E.X E.G E.f2) (keep_of E.f2) (af_cons (pf_v (pv 0)) (af_cons pf_int af_nil)))) (zs_cons (z_set (i := 2) sc.nd rfl (Or.inl rfl) (pf_op of_mod (pf_ixV (pv 1) pf_int) pf_int)) (zs_cons (z_setN (i := 3) sc.nd rfl (Or.inl rfl) (pn_lst (af_cons (pf_v (pv 2)) (af_cons (pf_op of_add (pf_op of_mod (pf_ixV (pv 1) pf_int) pf_int) pf_int) af_nil)))) (zs_cons (z_set (i := 4) sc.nd rfl (Or.inl rfl) pf_str) (zs_cons (z_set (i := 5) sc.nd rfl (Or.inl rfl) pf_str) (zs_cons (z_set (i := 6) sc.nd rfl (Or.inl rfl) (pf_neg pf_int)) (zs_cons (z_setN (i := 7) sc.nd rfl (Or.inl rfl) (pn_lst (af_cons (pf_op of_add (pf_op of_mod (pf_ixV (pv 1) pf_int) pf_int) pf_int) (af_cons (pf_op of_add (pf_op of_mod (pf_ixV (pv 1) pf_int) pf_int) pf_int) af_nil)))) (zs_cons (z_set (i := 8) sc.nd rfl (Or.inl rfl) (pf_op of_mod (pf_ixV (pv 1) pf_int) (pf_op of_add (pf_ixV (pv 7) pf_int) (pf_ixV (pv 7) pf_int)))) (zs_cons (z_set (i := 9) sc.nd rfl (Or.inl rfl) pf_int) (zs_cons (z_for hp rfl (if_range1 rfl (free_of E.X E.G E.f1) (af_cons pf_int af_nil)) (gf_name (i := 10) sc.nd rfl (Or.inl rfl)) (zs_cons (z_set (i := 4) sc.nd rfl (Or.inl rfl) (pf_op of_addS (pf_v (pv 4)) pf_str)) (zs_cons (z_set (i := 5) sc.nd rfl (Or.inl rfl) (pf_op of_addS (pf_v (pv 5)) pf_str)) (zs_cons (z_for hp rfl (if_range1 rfl (free_of E.X E.G E.f1) (af_cons (pf_ixV (pv 7) (pf_v (pv 10))) af_nil)) (gf_name (i := 11) sc.nd rfl (Or.inl rfl)) (zs_cons (z_if (tf_cmp of_gt (pf_v (pv 11)) pf_int (by rfl)) (zs_cons (z_set (i := 4) sc.nd rfl (Or.inl rfl) (pf_op of_addS (pf_v (pv 4)) pf_str)) (zs_cons (z_set (i := 5) sc.nd rfl (Or.inl rfl) (pf_op of_addS (pf_v (pv 5)) pf_str)) zs_nil)) zs_nil) (zs_cons (z_set (i := 12) sc.nd rfl (Or.inl rfl) (pf_op of_add pf_int (pf_op of_mul pf_int (pf_v (pv 9))))) (zs_cons (z_set (i := 13) sc.nd rfl (Or.inl rfl) (pf_call (kf_fn G__law_poly (hr.mono (by decide)) b__law_poly_4 tk) rfl (glo_of E.X E.G E.f9) (keep_of E.f9) (af_cons (pf_v (pv 1)) (af_cons (pf_v (pv 12)) (af_cons pf_int (af_cons (pf_n (pn_lst af_nil)) af_nil)))))) (zs_cons (z_set (i := 14) sc.nd rfl (Or.inl rfl) (pf_v (pv 13))) (zs_cons (z_if (tf_w (wf_and (tf_cmp of_eq (pf_v (pv 9)) (pf_v (pv 8)) (by rfl)) (wf_and1 (tf_cmp of_lt (pf_v (pv 2)) pf_int (by rfl))))) (zs_cons (z_set (i := 14) sc.nd rfl (Or.inl rfl) (pf_call (kf_fn G__law_poly (hr.mono (by decide)) b__law_poly_4 tk) rfl (glo_of E.X E.G E.f9) (keep_of E.f9) (af_cons (pf_v (pv 1)) (af_cons (pf_v (pv 12)) (af_cons (pf_op of_div (pf_ixV (pv 1) pf_int) pf_int) (af_cons (pf_v (pv 3)) af_nil)))))) (zs_cons (z_set (i := 6) sc.nd rfl (Or.inl rfl) (pf_op of_add (pf_callB cf_len rfl (free_of E.X E.G E.f0) bt_len (af_cons (pf_v (pv 4)) af_nil)) (pf_ix (pf_v (pv 14)) pf_int))) zs_nil)) zs_nil) (zs_cons (z_set (i := 4) sc.nd rfl (Or.inl rfl) (pf_op of_addS (pf_v (pv 4)) (pf_ix (pf_v (pv 14)) pf_int))) (zs_cons (z_set (i := 5) sc.nd rfl (Or.inl rfl) (pf_op of_addS (pf_v (pv 5)) (pf_ix (pf_v (pv 13)) pf_int))) (zs_cons (z_set (i := 9) sc.nd rfl (Or.inl rfl) (pf_op of_add (pf_v (pv 9)) pf_int)) zs_nil))))))))) (zs_cons (z_if (tf_w (wf_and (tf_cmp of_eq (pf_v (pv 2)) pf_int (by rfl)) (wf_and1 (tf_cmp of_eq (pf_v (pv 10)) (pf_op of_mod (pf_v (pv 8)) pf_int) (by rfl))))) (zs_cons (z_set (i := 4) sc.nd rfl (Or.inl rfl) (pf_op of_addS (pf_v (pv 4)) pf_str)) (zs_cons (z_set (i := 6) sc.nd rfl (Or.inl rfl) (pf_op of_add (pf_callB cf_len rfl (free_of E.X E.G E.f0) bt_len (af_cons (pf_v (pv 4)) af_nil)) pf_int)) zs_nil)) zs_nil) (zs_cons (z_if (tf_w (wf_and (tf_cmp of_eq (pf_v (pv 2)) pf_int (by rfl)) (wf_and1 (tf_cmp of_eq (pf_v (pv 10)) (pf_op of_mod (pf_v (pv 8)) pf_int) (by rfl))))) (zs_cons (z_set (i := 4) sc.nd rfl (Or.inl rfl) (pf_op of_addS (pf_v (pv 4)) pf_str)) (zs_cons (z_set (i := 6) sc.nd rfl (Or.inl rfl) (pf_callB cf_len rfl (free_of E.X E.G E.f0) bt_len (af_cons (pf_v (pv 4)) af_nil))) zs_nil)) zs_nil) (zs_cons (z_set (i := 4) sc.nd rfl (Or.inl rfl) (pf_op of_addS (pf_v (pv 4)) pf_str)) (zs_cons (z_set (i := 5) sc.nd rfl (Or.inl rfl) (pf_op of_addS (pf_v (pv 5)) pf_str)) zs_nil)))))))) (zs_cons (z_if (tf_cmp of_ne (pf_call (kf_fn G_write_certificate (hr.mono (by decide)) b_write_certificate_1 tk) rfl (glo_of E.X E.G E.f62) (keep_of E.f62) (af_cons (pf_call (kf_fn G_read_certificate (hr.mono (by decide)) b_read_certificate_1 tk) rfl (glo_of E.X E.G E.f61) (keep_of E.f61) (af_cons (pf_v (pv 5)) af_nil)) af_nil)) (pf_v (pv 5)) (by rfl)) (zs_cons (z_ret pf_bl) zs_nil) zs_nil) (zs_cons (z_try (i := 15) rfl rfl sc.nd rfl rfl ⟨rfl, by decide, .inl (glo_of E.X E.G E.f33)⟩ tk rfl (fun W pn xe tk hp => (zs_cons (z_expr (pf_call (kf_fn G_read_certificate (hr.mono (by decide)) b_read_certificate_1 tk) rfl (glo_of E.X E.G E.f61) (keep_of E.f61) (af_cons (pf_v (pv 4)) af_nil))) zs_nil)) E.xmxt_InvalidText (fun a dd oe pn c et hz hv => (zs_cons (z_ret (pf_and (pf_isT (n := "int") (cs := [0, 1, 2, 3]) (by decide) (fun c h => (E.insOk c h).cx) (isT_ofN (m := 4) (by rfl) E.f65) (pf_exf xf_where_ok (hx_xt_InvalidText_where c et).1 (hx_xt_InvalidText_where c et).2 hz hv (pv 15)) rfl (free_of E.X E.G E.f4) bt_int rfl (free_of E.X E.G E.f66) bt_isinstance) (pf_and (pf_not (pf_isT (n := "bool") (cs := [0, 1, 2, 3]) (by decide) (fun c h => (E.insOk c h).cx) (isT_ofN (m := 4) (by rfl) E.f67) (pf_exf xf_where_ok (hx_xt_InvalidText_where c et).1 (hx_xt_InvalidText_where c et).2 hz hv (pv 15)) rfl (free_of E.X E.G E.f68) bt_bool rfl (free_of E.X E.G E.f66) bt_isinstance)) (pf_one (pf_cmp of_eq (pf_exf xf_where_ok (hx_xt_InvalidText_where c et).1 (hx_xt_InvalidText_where c et).2 hz hv (pv 15)) (pf_v (pv 6)) (by rfl)))))) zs_nil))) (zs_cons (z_ret pf_bl) zs_nil)))))))))))))
end K98
namespace Ce

/-! ### sizes -/
theorem log2_of {n k : Nat} (h : n ≤ 2 ^ k) : n.log2 ≤ k := by
  by_cases z : n = 0
  · subst z; simp
  · have := (Nat.log2_lt z).mpr (Nat.lt_of_le_of_lt h (Nat.pow_lt_pow_right (a := 2) (m := k) (n := k + 1) (by omega) (by omega)))
    omega
/-- at most 2 ^ k -/
def nb (i : Int) (k : Nat) : Prop := i.natAbs ≤ 2 ^ k
theorem nb.mono {i : Int} {j k : Nat} (h : nb i j) (l : j ≤ k) : nb i k := Nat.le_trans h (Nat.pow_le_pow_right (by omega) l)
theorem nb.mul {i j : Int} {a b : Nat} (h : nb i a) (h' : nb j b) : nb (i * j) (a + b) := by
  unfold nb at *
  rw [Int.natAbs_mul, Nat.pow_add]
  exact Nat.mul_le_mul h h'
theorem nb.add {i j : Int} {a : Nat} (h : nb i a) (h' : nb j a) : nb (i + j) (a + 1) := by
  unfold nb at *
  have := Int.natAbs_add_le i j
  rw [Nat.pow_succ]
  omega
theorem nb.neg {i : Int} {a : Nat} (h : nb i a) : nb (-i) a := by
  unfold nb at *
  rwa [Int.natAbs_neg]
theorem nb.sub {i j : Int} {a : Nat} (h : nb i a) (h' : nb j a) : nb (i - j) (a + 1) := by
  rw [Int.sub_eq_add_neg]
  exact h.add h'.neg
theorem mulOk_nb {i j : Int} {a b : Nat} (h : nb i a) (h' : nb j b) (l : a + b < 100000000) : mulOk i j = true := by
  refine decide_eq_true ?_
  have := log2_of h
  have := log2_of h'
  omega
theorem divOk_nb {j : Int} {b : Nat} (h0 : j ≠ 0) (h : nb j b) (l : b < 9000) : divOk j = true := by
  refine Bool.and_eq_true_iff.mpr ⟨decide_eq_true h0, decide_eq_true ?_⟩
  have := log2_of h
  omega
/-! ### fractions -/
/-- the divisor of Fraction(n, d) -/
def sgcd (n d : Int) : Int := if d < 0 then -((Nat.gcd n.natAbs d.natAbs : Nat) : Int) else ((Nat.gcd n.natAbs d.natAbs : Nat) : Int)
theorem sgcd_ne {n d : Int} (h : d ≠ 0) : sgcd n d ≠ 0 := by
  have : Nat.gcd n.natAbs d.natAbs ≠ 0 := fun z => by
    have := Nat.eq_zero_of_gcd_eq_zero_right z
    omega
  unfold sgcd
  split <;> omega
theorem sgcd_nb {n d : Int} {k : Nat} (h : d ≠ 0) (b : nb d k) : nb (sgcd n d) k := by
  have l : Nat.gcd n.natAbs d.natAbs ≤ d.natAbs := Nat.le_of_dvd (by omega) (Nat.gcd_dvd_right _ _)
  unfold nb at *
  unfold sgcd
  split <;> simp <;> omega
theorem sgcd_dvdl {n d : Int} : sgcd n d ∣ n := by
  have : ((Nat.gcd n.natAbs d.natAbs : Nat) : Int) ∣ n := Int.ofNat_dvd_left.mpr (Nat.gcd_dvd_left _ _)
  unfold sgcd
  split
  · exact Int.neg_dvd.mpr this
  · exact this
theorem sgcd_dvdr {n d : Int} : sgcd n d ∣ d := by
  have : ((Nat.gcd n.natAbs d.natAbs : Nat) : Int) ∣ d := Int.ofNat_dvd_left.mpr (Nat.gcd_dvd_right _ _)
  unfold sgcd
  split
  · exact Int.neg_dvd.mpr this
  · exact this
theorem frac_num {n d : Int} (h : d ≠ 0) : n.fdiv (sgcd n d) = (Rat.divInt n d).num := by
  rw [Rat.num_divInt, Int.fdiv_eq_ediv_of_dvd sgcd_dvdl]
  have e : ((d.gcd n : Nat) : Int) = ((Nat.gcd n.natAbs d.natAbs : Nat) : Int) := by
    rw [Int.gcd_comm]; rfl
  rw [e]
  have dv : ((Nat.gcd n.natAbs d.natAbs : Nat) : Int) ∣ n := Int.ofNat_dvd_left.mpr (Nat.gcd_dvd_left _ _)
  unfold sgcd
  split
  · rename_i hd
    rw [Int.sign_eq_neg_one_of_neg hd, Int.ediv_neg, Int.neg_mul, Int.one_mul, Int.neg_ediv_of_dvd dv]
  · have : d.sign = 1 := Int.sign_eq_one_of_pos (by omega)
    rw [this, Int.one_mul]
theorem frac_den {n d : Int} (h : d ≠ 0) : d.fdiv (sgcd n d) = ((Rat.divInt n d).den : Int) := by
  rw [Rat.den_divInt, if_neg h, Int.fdiv_eq_ediv_of_dvd sgcd_dvdr]
  have e : d.gcd n = Nat.gcd n.natAbs d.natAbs := by
    rw [Int.gcd_comm]; rfl
  rw [e, Int.natCast_ediv]
  have dv : ((Nat.gcd n.natAbs d.natAbs : Nat) : Int) ∣ d := Int.ofNat_dvd_left.mpr (Nat.gcd_dvd_right _ _)
  unfold sgcd
  split
  · rename_i hd
    rw [Int.ediv_neg, show ((d.natAbs : Nat) : Int) = -d by omega, Int.neg_ediv_of_dvd dv]
  · rw [show ((d.natAbs : Nat) : Int) = d by omega]
/-- a fraction as the program has it -/
def fr (q : Rat) : D := .ins 0 [.int q.num, .int q.den]
/-- num and den below 2 ^ k -/
def qb (q : Rat) (a d : Nat) : Prop := nb q.num a ∧ nb q.den d
theorem den_le {n d : Int} (h : d ≠ 0) : ((Rat.divInt n d).den : Int).natAbs ≤ d.natAbs := by
  rw [Rat.den_divInt, if_neg h]
  simp only [Int.natAbs_natCast]
  exact Nat.div_le_self _ _
theorem num_le {n d : Int} (h : d ≠ 0) : (Rat.divInt n d).num.natAbs ≤ n.natAbs := by
  rw [← frac_num h, Int.fdiv_eq_ediv_of_dvd sgcd_dvdl]
  exact Int.natAbs_ediv_le_natAbs _ _
theorem qb_divInt {n d : Int} {a k : Nat} (h : d ≠ 0) (hn : nb n a) (hd : nb d k) : qb (Rat.divInt n d) a k :=
  ⟨Nat.le_trans (num_le h) hn, Nat.le_trans (den_le h) hd⟩
theorem den_ne (q : Rat) : (q.den : Int) ≠ 0 := by
  have := q.den_nz
  omega
theorem add_divInt (p q : Rat) : Rat.divInt (p.num * q.den + q.num * p.den) (p.den * q.den) = p + q := by
  rw [← Rat.divInt_add_divInt _ _ (den_ne p) (den_ne q), Rat.num_divInt_den, Rat.num_divInt_den]
theorem mul_divInt (p q : Rat) : Rat.divInt (p.num * q.num) (p.den * q.den) = p * q := by
  rw [← Rat.divInt_mul_divInt, Rat.num_divInt_den, Rat.num_divInt_den]
theorem sub_divInt (p q : Rat) : Rat.divInt (p.num * q.den - q.num * p.den) (p.den * q.den) = p - q := by
  rw [Rat.sub_eq_add_neg, ← add_divInt p (-q), Rat.neg_num, Rat.neg_den, Int.neg_mul, Int.sub_eq_add_neg]
theorem neg_divInt (p : Rat) : Rat.divInt (-p.num) p.den = -p := by
  rw [← Rat.neg_divInt, Rat.num_divInt_den]
theorem div_divInt (p q : Rat) (h : q ≠ 0) : Rat.divInt (p.num * q.den) (p.den * q.num) = p / q := by
  rw [← Rat.divInt_mul_divInt, Rat.num_divInt_den, Rat.div_def]
  rw [Rat.inv_def]
theorem qb_add {p q : Rat} {a d b e c : Nat} (h : qb p a d) (h' : qb q b e) (l1 : a + e ≤ c) (l2 : b + d ≤ c) : qb (p + q) (c + 1) (d + e) := by
  rw [← add_divInt]
  exact qb_divInt (Int.mul_ne_zero (den_ne p) (den_ne q)) (((h.1.mul h'.2).mono l1).add ((h'.1.mul h.2).mono l2)) (h.2.mul h'.2)
theorem qb_mul {p q : Rat} {a d b e : Nat} (h : qb p a d) (h' : qb q b e) : qb (p * q) (a + b) (d + e) := by
  rw [← mul_divInt]
  exact qb_divInt (Int.mul_ne_zero (den_ne p) (den_ne q)) (h.1.mul h'.1) (h.2.mul h'.2)
theorem qb_neg {p : Rat} {a d : Nat} (h : qb p a d) : qb (-p) a d := by
  unfold qb at *
  rw [Rat.neg_num, Rat.neg_den]
  exact ⟨h.1.neg, h.2⟩
theorem num_ne {q : Rat} (h : q ≠ 0) : q.num ≠ 0 := fun z => h (Rat.num_eq_zero.mp z)
theorem qb_div {p q : Rat} {a d b e : Nat} (h : qb p a d) (h' : qb q b e) (hq : q ≠ 0) : qb (p / q) (a + e) (d + b) := by
  rw [← div_divInt p q hq]
  exact qb_divInt (Int.mul_ne_zero (den_ne p) (num_ne hq)) (h.1.mul h'.2) (h.2.mul h'.1)
theorem qb_int {i : Int} {a : Nat} (h : nb i a) : qb (i : Rat) a 0 := by
  refine ⟨by rw [Rat.num_intCast]; exact h, ?_⟩
  rw [Rat.den_intCast]
  exact Nat.le_refl _
theorem qb.mono {q : Rat} {a d b e : Nat} (h : qb q a d) (l : a ≤ b) (l' : d ≤ e) : qb q b e := ⟨h.1.mono l, h.2.mono l'⟩
theorem divInt_one (n : Int) : Rat.divInt n 1 = (n : Rat) := by
  have z := Rat.num_divInt_den (n : Rat)
  rw [Rat.num_intCast, Rat.den_intCast] at z
  exact z
theorem fr_inj {p q : Rat} : fr p = fr q ↔ p = q := by
  constructor
  · intro h
    unfold fr at h
    simp only [D.ins.injEq, List.cons.injEq, D.int.injEq, true_and, and_true] at h
    exact Rat.ext h.1 (by exact_mod_cast h.2)
  · rintro rfl; rfl
/-! ### loops -/
theorem forL_inv {g : D → En → Option En} {b : En → SOut} (P : Nat → En → Prop) : ∀ (ds : List D) (k : Nat) (ρ : En), P k ρ → (∀ i d ρ, ds[i]? = some d → P (k + i) ρ → ∃ ρ1 ρ2, g d ρ = some ρ1 ∧ b ρ1 = .nx ρ2 ∧ P (k + i + 1) ρ2) → ∃ ρ', forL g b ds ρ = .nx ρ' ∧ P (k + ds.length) ρ'
  | [], k, ρ, h0, h => ⟨ρ, rfl, h0⟩
  | d :: ds, k, ρ, h0, h => by
    obtain ⟨ρ1, ρ2, e1, e2, h2⟩ := h 0 d ρ rfl h0
    obtain ⟨ρ', e3, h3⟩ := forL_inv P ds (k + 1) ρ2 h2 fun i d' ρ e p => by
      have z := h (i + 1) d' ρ (by simpa using e) (by rw [show k + (i + 1) = k + 1 + i by omega]; exact p)
      rw [show k + (i + 1) + 1 = k + 1 + i + 1 by omega] at z
      exact z
    refine ⟨ρ', ?_, by rw [List.length_cons, show k + (ds.length + 1) = k + 1 + ds.length by omega]; exact h3⟩
    rw [forL, e1]
    simp only [e2]
    exact e3
theorem sCons_nx {f g : En → SOut} {ρ ρ1 : En} (h : f ρ = .nx ρ1) : sCons f g ρ = g ρ1 := by
  unfold sCons
  rw [h]
  rfl
theorem sCons_rt {f g : En → SOut} {ρ ρ1 : En} {d : D} (h : f ρ = .rt d ρ1) : sCons f g ρ = .rt d ρ1 := by
  unfold sCons
  rw [h]
  rfl
theorem atI_nat {α : Type} (xs : List α) (n : Nat) : L2.atI xs (n : Int) = xs[n]? := by
  unfold L2.atI L2.ixN
  by_cases h : n < xs.length
  · rw [if_pos (by omega), if_pos (by omega)]
    simp
  · rw [if_pos (by omega), if_neg (by omega)]
    simp
    omega
end Ce
namespace K98
open PySem PySem.Spec PyProof.Rows L2 Ce
def S (l : List Nat) : Str := ⟨l.toArray⟩
theorem S_add (a b : List Nat) : S a ++ S b = S (a ++ b) := by
  show (⟨a.toArray ++ b.toArray⟩ : Str) = _
  simp [S]
theorem S_len (a : List Nat) : (S a).length = a.length := rfl
theorem S_inj {a b : List Nat} : S a = S b ↔ a = b := by
  simp [S]
abbrev cu (pre rest : List Nat) : O := .oi 3 [.str (S (pre ++ rest)), .int (pre.length : Nat)]
abbrev big (pre rest : List Nat) : Prop := (pre ++ rest).length ≤ 100000
theorem cut1 (pre rest : List Nat) : cutS (S (pre ++ rest)) (some ((pre.length : Nat) : Int)) (some (((pre.length : Nat) : Int) + 1)) = S (rest.take 1) := by
  unfold cutS
  have e : (((pre.length : Nat) : Int) + 1) = ((pre.length + 1 : Nat) : Int) := by omega
  rw [e, HT.sIx_nat, HT.sIx_nat, S_len, List.length_append]
  have e1 : min pre.length (pre.length + rest.length) = pre.length := by omega
  rw [e1]
  show S _ = _
  rw [S_inj]
  have e2 : (S (pre ++ rest)).cps.toList = pre ++ rest := by simp [S]
  rw [e2, List.drop_left]
  cases rest with
  | nil => simp
  | cons c r =>
    have : min (pre.length + 1) (pre.length + (c :: r).length) - pre.length = 1 := by rw [List.length_cons]; omega
    rw [this]
theorem ahead_run (pre rest : List Nat) (h : big pre rest) : m_Cursor_ahead [some (cu pre rest)] = .ok (.str (S (rest.take 1))) [some (cu pre rest)] := by
  have hz : (S (pre ++ rest)).length ≤ sizeLine := by rw [S_len, sizeLine_eq]; unfold big at h; omega
  have c := cut1 pre rest
  simp [m_Cursor_ahead, mOf, b_Cursor_ahead, sCons, sRet, sl3, fldV, ft_text, ft_place, isP, op2, iAdd, ii, cst, opt, slT, hz, c, Out.bind, Out.st, SOut.sq, argE, List.mapIdx, List.mapIdx.go]
theorem refuse_run (pre rest : List Nat) : m_Cursor_refuse [some (cu pre rest)] = .ex ⟨4, [.int (pre.length : Nat)]⟩ [some (cu pre rest)] := by
  simp [m_Cursor_refuse, mOf, b_Cursor_refuse, sCons, sRaise, fldV, ft_place, opt, Out.st, SOut.sq, argE, List.mapIdx, List.mapIdx.go]
theorem take_ok (pre rest : List Nat) (c : Nat) (h : big pre (c :: rest)) : m_Cursor_take [some (cu pre (c :: rest)), some (.im (.str (S [c])))] = .ok .non [some (cu (pre ++ [c]) rest), some (.im (.str (S [c])))] := by
  have a := ahead_run pre (c :: rest) h
  have e : (S [c]).cps.toList = [c] := by simp [S]
  have hS : (⟨#[c]⟩ : Str) = S [c] := rfl
  simp [m_Cursor_take, mOf, b_Cursor_take, sCons, sFor, itS, rd, gN, forL, sIf, tst, op2, mtO, onO, oN, a, sNe, seq, opt, Out.bind, Out.st, SOut.sq, sNil, sFldA, ft_place, cst, putD, argE, List.mapIdx, List.mapIdx.go, e, hS]
theorem take_er (pre rest : List Nat) (c : Nat) (h : big pre rest) (ne : rest.take 1 ≠ [c]) : ∃ r, m_Cursor_take [some (cu pre rest), some (.im (.str (S [c])))] = .ex ⟨4, [.int (pre.length : Nat)]⟩ (some (cu pre rest) :: r) := by
  have a := ahead_run pre rest h
  have b := refuse_run pre rest
  have e : (S [c]).cps.toList = [c] := by simp [S]
  have n : ¬ S (rest.take 1) = (⟨#[c]⟩ : Str) := fun z => ne (S_inj.mp z)
  refine ⟨[some (.im (.str (S [c])))], ?_⟩
  simp [m_Cursor_take, mOf, b_Cursor_take, sCons, sFor, itS, rd, gN, forL, sIf, tst, op2, mtO, onO, oN, a, b, sNe, seq, opt, Out.bind, Out.st, SOut.sq, sNil, sExpr, cst, argE, List.mapIdx, List.mapIdx.go, e, n]
end K98
namespace K98
open PySem PySem.Spec PyProof.Rows L2 Ce
/-! ### numbers in a text -/
abbrev DG : Str := PySem.Str.ofString "0123456789"
def dig (c : Nat) : Prop := 48 ≤ c ∧ c ≤ 57
theorem dig_cases {c : Nat} (h : dig c) : c = 48 ∨ c = 49 ∨ c = 50 ∨ c = 51 ∨ c = 52 ∨ c = 53 ∨ c = 54 ∨ c = 55 ∨ c = 56 ∨ c = 57 := by
  unfold dig at h
  omega
theorem in_dig {c : Nat} (h : dig c) : (Builtin.Str.occurrences DG (S [c]) 0 DG.length 1).isEmpty = false := by
  rcases dig_cases h with rfl | rfl | rfl | rfl | rfl | rfl | rfl | rfl | rfl | rfl <;> kernel_rfl
theorem in_no {c : Nat} (h : c = 32 ∨ c = 93 ∨ c = 47) : (Builtin.Str.occurrences DG (S [c]) 0 DG.length 1).isEmpty = true := by
  rcases h with rfl | rfl | rfl <;> kernel_rfl
abbrev DG1 : Str := cutS DG (some 1) none
theorem in1_dig {c : Nat} (h : 49 ≤ c ∧ c ≤ 57) : (Builtin.Str.occurrences DG1 (S [c]) 0 DG1.length 1).isEmpty = false := by
  have h' : c = 49 ∨ c = 50 ∨ c = 51 ∨ c = 52 ∨ c = 53 ∨ c = 54 ∨ c = 55 ∨ c = 56 ∨ c = 57 := by omega
  rcases h' with rfl | rfl | rfl | rfl | rfl | rfl | rfl | rfl | rfl <;> kernel_rfl
theorem in1_no {c : Nat} (h : c = 32 ∨ c = 93 ∨ c = 48) : (Builtin.Str.occurrences DG1 (S [c]) 0 DG1.length 1).isEmpty = true := by
  rcases h with rfl | rfl | rfl <;> kernel_rfl
/-- what stands behind a number -/
def stop (l : List Nat) : Prop := l.take 1 = [32] ∨ l.take 1 = [93] ∨ l.take 1 = [47]
theorem sNe_str (a b : Str) (ρ : En) : sNe (.str a) (.str b) ρ = .ok (.bl (!decide (a = b))) ρ := rfl
theorem sEq_str (a b : Str) (ρ : En) : sEq (.str a) (.str b) ρ = .ok (.bl (decide (a = b))) ρ := rfl
theorem tInS_str (a b : Str) (ρ : En) : tInS (.str a) (.str b) ρ = .ok (.bl (!(Builtin.Str.occurrences b a 0 b.length 1).isEmpty)) ρ := rfl
theorem tNotInS_str (a b : Str) (ρ : En) : tNotInS (.str a) (.str b) ρ = .ok (.bl (!(!(Builtin.Str.occurrences b a 0 b.length 1).isEmpty))) ρ := rfl
theorem S_ne {c : Nat} : ¬ S [c] = PySem.Str.ofString "" := by
  show ¬ S [c] = S []
  rw [S_inj]
  simp
def wP : En → Out Bool := (tAnd2 (tst (op2 sNe (mtO 3 0 1 m_Cursor_ahead oN) (cst (.str (PySem.Str.ofString ""))))) (tst (op2 tInS (mtO 3 0 1 m_Cursor_ahead oN) (cst (.str (PySem.Str.ofString "0123456789"))))))
theorem mtO_ahead (pre rest : List Nat) (r : En) (h : big pre rest) : mtO 3 0 1 m_Cursor_ahead oN (some (cu pre rest) :: r) = .ok (.str (S (rest.take 1))) (some (cu pre rest) :: r) := by
  have a := ahead_run pre rest h
  simp [mtO, onO, oN, Out.bind, a]
theorem mtO_refuse (pre rest : List Nat) (r : En) : mtO 3 0 1 m_Cursor_refuse oN (some (cu pre rest) :: r) = .ex ⟨4, [.int (pre.length : Nat)]⟩ (some (cu pre rest) :: r) := by
  have a := refuse_run pre rest
  simp [mtO, onO, oN, Out.bind, a]
theorem wP_dig (pre rest : List Nat) (c : Nat) (r : En) (h : big pre (c :: rest)) (hc : dig c) : wP (some (cu pre (c :: rest)) :: r) = .ok true (some (cu pre (c :: rest)) :: r) := by
  have a := mtO_ahead pre (c :: rest) r h
  have e : S ((c :: rest).take 1) = S [c] := rfl
  rw [e] at a
  have n : ¬ S [c] = PySem.Str.ofString "" := by
    show ¬ S [c] = S []
    rw [S_inj]
    simp
  have d := in_dig hc
  unfold wP tAnd2 tst
  simp only [op2, a, Out.bind, cst, sNe_str, tInS_str, n, decide_false, Bool.not_false, d]
theorem wP_stop (pre rest : List Nat) (r : En) (h : big pre rest) (hs : stop rest ∨ rest = []) : wP (some (cu pre rest) :: r) = .ok false (some (cu pre rest) :: r) := by
  have a := mtO_ahead pre rest r h
  rcases hs with hs | hs
  · obtain ⟨c, e, hc⟩ : ∃ c, rest.take 1 = [c] ∧ (c = 32 ∨ c = 93 ∨ c = 47) := by
      rcases hs with e | e | e
      · exact ⟨_, e, by omega⟩
      · exact ⟨_, e, by omega⟩
      · exact ⟨_, e, by omega⟩
    rw [e] at a
    have n : ¬ S [c] = PySem.Str.ofString "" := by
      show ¬ S [c] = S []
      rw [S_inj]
      simp
    have d := in_no hc
    unfold wP tAnd2 tst
    simp only [op2, a, Out.bind, cst, sNe_str, tInS_str, n, decide_false, Bool.not_false, d, Bool.not_true]
  · subst hs
    have n : S (([] : List Nat).take 1) = PySem.Str.ofString "" := rfl
    unfold wP tAnd2 tst
    simp only [op2, a, Out.bind, cst, sNe_str, tInS_str, n, decide_true, Bool.not_true]
def bP : En → SOut := (sCons (sFldA ft_place 0 (fun i j => i + j) (cst (.int 1))) sNil)
theorem bP_run (pre rest : List Nat) (c : Nat) (r : En) : bP (some (cu pre (c :: rest)) :: r) = .nx (some (cu (pre ++ [c]) rest) :: r) := by
  simp [bP, sCons, sFldA, ft_place, cst, putD, Out.st, SOut.sq, sNil]
theorem digs_run : ∀ (ds : List Nat) (pre rest : List Nat) (r : En) (n : Nat), big pre (ds ++ rest) → (∀ c ∈ ds, dig c) → (stop rest ∨ rest = []) → ds.length < n → whL wP bP n (some (cu pre (ds ++ rest)) :: r) = .nx (some (cu (pre ++ ds) rest) :: r)
  | [], pre, rest, r, n, h, _, hs, hn => by
    obtain ⟨m, rfl⟩ : ∃ m, n = m + 1 := ⟨n - 1, by simp at hn; omega⟩
    have z := wP_stop pre rest r h hs
    rw [whL]
    simp only [List.nil_append, List.append_nil]
    rw [z]
    rfl
  | c :: ds, pre, rest, r, n, h, hd, hs, hn => by
    obtain ⟨m, rfl⟩ : ∃ m, n = m + 1 := ⟨n - 1, by simp at hn; omega⟩
    have z := wP_dig pre (ds ++ rest) c r h (hd c List.mem_cons_self)
    have z2 := bP_run pre (ds ++ rest) c r
    have h' : big (pre ++ [c]) (ds ++ rest) := by unfold big at h ⊢; simp at h ⊢; omega
    have ih := digs_run ds (pre ++ [c]) rest r m h' (fun x m => hd x (List.mem_cons_of_mem _ m)) hs (by rw [List.length_cons] at hn; omega)
    rw [whL]
    show Out.st (wP (some (cu pre (c :: (ds ++ rest))) :: r)) _ = _
    rw [z]
    simp only [Out.st, z2]
    rw [ih]
    simp
/-- the digits of a number -/
def dg (n : Nat) : List Nat := (PySem.Str.ofString (toString (n : Int))).cps.toList
def dgB (n : Nat) : Bool := (match dg n with
    | [] => false
    | c :: r => decide (49 ≤ c ∧ c ≤ 57) && (r.all fun c => decide (48 ≤ c ∧ c ≤ 57)) && decide (r.length ≤ 2)) && decide (PySem.intText? (S (dg n)) = some (n : Int))
theorem dg_tab : ((List.range 200).all fun n => decide (n = 0) || dgB n) = true := by decide +kernel
theorem dg_ok {n : Nat} (h0 : n ≠ 0) (h : n < 200) : ∃ c r, dg n = c :: r ∧ (49 ≤ c ∧ c ≤ 57) ∧ (∀ x ∈ r, dig x) ∧ r.length ≤ 2 ∧ PySem.intText? (S (dg n)) = some (n : Int) := by
  have z := List.all_eq_true.mp dg_tab n (List.mem_range.mpr h)
  rw [Bool.or_eq_true] at z
  rcases z with z | z
  · exact absurd (of_decide_eq_true z) h0
  · unfold dgB at z
    obtain ⟨z1, z2⟩ := Bool.and_eq_true_iff.mp z
    have z2 := of_decide_eq_true z2
    cases e : dg n with
    | nil => rw [e] at z1; cases z1
    | cons c r =>
      rw [e] at z1 z2
      simp only [Bool.and_eq_true, decide_eq_true_eq] at z1
      obtain ⟨⟨k1, k2⟩, k3⟩ := z1
      refine ⟨c, r, rfl, k1, fun x m => ?_, k3, z2⟩
      exact of_decide_eq_true (p := 48 ≤ x ∧ x ≤ 57) (List.all_eq_true.mp k2 x m)
end K98
namespace K98
open PySem PySem.Spec PyProof.Rows L2 Ce
theorem cutM (a b c : List Nat) : cutS (S (a ++ (b ++ c))) (some ((a.length : Nat) : Int)) (some (((a ++ b).length : Nat) : Int)) = S b := by
  unfold cutS
  rw [HT.sIx_nat, HT.sIx_nat, S_len]
  show S _ = _
  rw [S_inj]
  have e2 : (S (a ++ (b ++ c))).cps.toList = a ++ (b ++ c) := by simp [S]
  have e1 : min a.length (a ++ (b ++ c)).length = a.length := by simp
  have e3 : min (a ++ b).length (a ++ (b ++ c)).length = a.length + b.length := by simp
  rw [e2, e1, e3, List.drop_left]
  have e4 : a.length + b.length - a.length = b.length := by omega
  rw [e4, List.take_left]
def p1 : En → SOut := (sIf (tOr2 (tst (op2 sEq (mtO 3 0 1 m_Cursor_ahead oN) (cst (.str (PySem.Str.ofString ""))))) (tst (op2 tNotInS (mtO 3 0 1 m_Cursor_ahead oN) (sl3 (cst (.str (PySem.Str.ofString "0123456789"))) (isP (cst (.int 1))) noP)))) (sCons (sExpr (mtO 3 0 1 m_Cursor_refuse oN)) sNil) sNil)
theorem dg1 (ρ : En) : (sl3 (cst (.str (PySem.Str.ofString "0123456789"))) (isP (cst (.int 1))) noP) ρ = .ok (.str DG1) ρ := by
  have h : (PySem.Str.ofString "0123456789").length ≤ sizeLine := by
    have e : (PySem.Str.ofString "0123456789").length = 10 := by kernel_rfl
    rw [e, sizeLine_eq]
    omega
  simp [sl3, cst, isP, noP, slT, h, opt, Out.bind]
theorem p1_ok (pre rest : List Nat) (c : Nat) (r : En) (h : big pre (c :: rest)) (hc : 49 ≤ c ∧ c ≤ 57) : p1 (some (cu pre (c :: rest)) :: r) = .nx (some (cu pre (c :: rest)) :: r) := by
  have a := mtO_ahead pre (c :: rest) r h
  have e : S ((c :: rest).take 1) = S [c] := rfl
  rw [e] at a
  have n := S_ne (c := c)
  have d := in1_dig hc
  unfold p1 sIf tOr2 tst
  simp only [op2, a, Out.bind, cst, sEq_str, n, decide_false]
  rw [dg1]
  simp only [tNotInS_str, d, Bool.not_false, Bool.not_true, Out.st, sNil]
theorem p1_er (pre rest : List Nat) (c : Nat) (r : En) (h : big pre rest) (ht : rest.take 1 = [c]) (hc : c = 32 ∨ c = 93 ∨ c = 48) : p1 (some (cu pre rest) :: r) = .ex ⟨4, [.int (pre.length : Nat)]⟩ (some (cu pre rest) :: r) := by
  have a := mtO_ahead pre rest r h
  rw [ht] at a
  have b := mtO_refuse pre rest r
  have n := S_ne (c := c)
  have d := in1_no hc
  unfold p1 sIf tOr2 tst
  simp only [op2, a, Out.bind, cst, sEq_str, n, decide_false]
  rw [dg1]
  simp only [tNotInS_str, d, Bool.not_false, Bool.not_true, Out.st, sCons, sExpr, b, SOut.sq]
theorem pos_ok (n : Nat) (h0 : n ≠ 0) (hn : n < 200) (pre rest : List Nat) (hb : big pre (dg n ++ rest)) (hs : stop rest ∨ rest = []) : m_positive_at [some (cu pre (dg n ++ rest))] = .ok (.int n) [some (cu (pre ++ dg n) rest)] := by
  obtain ⟨c, r, e, hc, hr, hl, hi⟩ := dg_ok h0 hn
  have q1 := p1_ok pre (r ++ rest) c [some (.im (.int (pre.length : Nat)))] (by rw [e] at hb; exact hb) hc
  have q2 := digs_run (dg n) pre rest [some (.im (.int (pre.length : Nat)))] 1000000000 hb (by
    intro x m
    rw [e] at m
    rcases List.mem_cons.mp m with rfl | m
    · unfold dig; omega
    · exact hr x m) hs (by rw [e, List.length_cons]; omega)
  have hz : (S (pre ++ (dg n ++ rest))).length ≤ sizeLine := by rw [S_len, sizeLine_eq]; unfold big at hb; omega
  have hz2 : (S (dg n)).length ≤ 640 := by rw [S_len, e, List.length_cons]; omega
  have cm := cutM pre (dg n) rest
  have q3 : (sRet (cl1 (fun ds => opt (kIntS ds)) (aC (sl3 (fldV ft_text 0) (isP (rd 1)) (isP (fldV ft_place 0))) aN))) [some (cu (pre ++ dg n) rest), some (.im (.int (pre.length : Nat)))] = .rt (.int n) [some (cu (pre ++ dg n) rest), some (.im (.int (pre.length : Nat)))] := by
    have ea : pre ++ dg n ++ rest = pre ++ (dg n ++ rest) := List.append_assoc _ _ _
    have f1 : sl3 (fldV ft_text 0) (isP (rd 1)) (isP (fldV ft_place 0)) [some (cu (pre ++ dg n) rest), some (.im (.int (pre.length : Nat)))] = .ok (.str (S (dg n))) [some (cu (pre ++ dg n) rest), some (.im (.int (pre.length : Nat)))] := by
      unfold sl3 fldV isP
      simp only [List.getElem?_cons_zero, ft_text, opt, Out.bind, rd, List.getElem?_cons_succ, ft_place, slT]
      rw [ea, cm]
      simp only [hz, decide_true, if_true]
    unfold sRet cl1 aC
    rw [f1]
    simp only [Out.bind, aN, kIntS, hz2, decide_true, if_true, hi, Option.map, opt, Out.st]
  have q0 : b_positive_at [some (cu pre (dg n ++ rest)), none] = .rt (.int n) [some (cu (pre ++ dg n) rest), some (.im (.int (pre.length : Nat)))] := by
    unfold b_positive_at
    refine (sCons_nx (ρ1 := [some (cu pre (dg n ++ rest)), some (.im (.int (pre.length : Nat)))]) rfl).trans ?_
    have q1' : p1 [some (cu pre (dg n ++ rest)), some (.im (.int (pre.length : Nat)))] = .nx [some (cu pre (dg n ++ rest)), some (.im (.int (pre.length : Nat)))] := by
      rw [e]
      exact q1
    refine (sCons_nx q1').trans ?_
    refine (sCons_nx q2).trans ?_
    exact sCons_rt q3
  show mOf 2 [0] b_positive_at _ = _
  unfold mOf
  show (match b_positive_at [some (cu pre (dg n ++ rest)), none] with
    | .nx ρ' => Out.ok D.non (argE [0] [some (cu pre (dg n ++ rest))] ρ')
    | .rt d ρ' => .ok d (argE [0] [some (cu pre (dg n ++ rest))] ρ')
    | .ex x ρ' => .ex x (argE [0] [some (cu pre (dg n ++ rest))] ρ')
    | _ => .er) = _
  rw [q0]
  rfl
theorem pos_er (pre rest : List Nat) (c : Nat) (h : big pre rest) (ht : rest.take 1 = [c]) (hc : c = 32 ∨ c = 93 ∨ c = 48) : m_positive_at [some (cu pre rest)] = .ex ⟨4, [.int (pre.length : Nat)]⟩ [some (cu pre rest)] := by
  have q1 := p1_er pre rest c [some (.im (.int (pre.length : Nat)))] h ht hc
  have q0 : b_positive_at [some (cu pre rest), none] = .ex ⟨4, [.int (pre.length : Nat)]⟩ [some (cu pre rest), some (.im (.int (pre.length : Nat)))] := by
    unfold b_positive_at
    refine (sCons_nx (ρ1 := [some (cu pre rest), some (.im (.int (pre.length : Nat)))]) rfl).trans ?_
    show sCons p1 _ _ = _
    unfold sCons
    rw [q1]
    rfl
  show mOf 2 [0] b_positive_at _ = _
  unfold mOf
  show (match b_positive_at [some (cu pre rest), none] with
    | .nx ρ' => Out.ok D.non (argE [0] [some (cu pre rest)] ρ')
    | .rt d ρ' => .ok d (argE [0] [some (cu pre rest)] ρ')
    | .ex x ρ' => .ex x (argE [0] [some (cu pre rest)] ρ')
    | _ => .er) = _
  rw [q0]
  rfl
end K98
namespace K98
open PySem PySem.Spec PyProof.Rows L2 Ce
theorem s45 : PySem.Str.ofString "-" = S [45] := by decide +kernel
theorem s48 : PySem.Str.ofString "0" = S [48] := by decide +kernel
theorem s47 : PySem.Str.ofString "/" = S [47] := by decide +kernel
theorem s91 : PySem.Str.ofString "[" = S [91] := by decide +kernel
theorem s93 : PySem.Str.ofString "]" = S [93] := by decide +kernel
theorem s60 : PySem.Str.ofString "<" = S [60] := by decide +kernel
theorem s62 : PySem.Str.ofString ">" = S [62] := by decide +kernel
theorem s32 : PySem.Str.ofString " " = S [32] := by decide +kernel
/-! ### calls on the cursor at slot 0 -/
theorem clO_ok {m : En → Out D} {pre rest pre' rest' : List Nat} {d : D} {r' : En} (r : En) (h : m [some (cu pre rest)] = .ok d (some (cu pre' rest') :: r')) : clO 0 1 m oN (some (cu pre rest) :: r) = .ok d (some (cu pre' rest') :: r) := by
  simp [clO, onO, oN, Out.bind, h]
theorem clO_er {m : En → Out D} {pre rest pre' rest' : List Nat} {x : Xn} {r' : En} (r : En) (h : m [some (cu pre rest)] = .ex x (some (cu pre' rest') :: r')) : clO 0 1 m oN (some (cu pre rest) :: r) = .ex x (some (cu pre' rest') :: r) := by
  simp [clO, onO, oN, Out.bind, h]
theorem tk_ok (pre rest : List Nat) (c : Nat) (r : En) (h : big pre (c :: rest)) : mtO 3 0 2 m_Cursor_take (oC (cst (.str (S [c]))) oN) (some (cu pre (c :: rest)) :: r) = .ok .non (some (cu (pre ++ [c]) rest) :: r) := by
  have a := take_ok pre rest c h
  simp [mtO, onO, oC, oN, cst, Out.bind, a]
theorem tk_er (pre rest : List Nat) (c : Nat) (r : En) (h : big pre rest) (ne : rest.take 1 ≠ [c]) : mtO 3 0 2 m_Cursor_take (oC (cst (.str (S [c]))) oN) (some (cu pre rest) :: r) = .ex ⟨4, [.int (pre.length : Nat)]⟩ (some (cu pre rest) :: r) := by
  obtain ⟨r', a⟩ := take_er pre rest c h ne
  simp [mtO, onO, oC, oN, cst, Out.bind, a]
/-- is the next sign c? -/
theorem eq_run (pre rest : List Nat) (c : Nat) (r : En) (h : big pre rest) : tst (op2 sEq (mtO 3 0 1 m_Cursor_ahead oN) (cst (.str (S [c])))) (some (cu pre rest) :: r) = .ok (decide (rest.take 1 = [c])) (some (cu pre rest) :: r) := by
  have a := mtO_ahead pre rest r h
  unfold tst
  simp only [op2, a, Out.bind, cst, sEq_str, S_inj]
theorem ne_run (pre rest : List Nat) (c : Nat) (r : En) (h : big pre rest) : tst (op2 sNe (mtO 3 0 1 m_Cursor_ahead oN) (cst (.str (S [c])))) (some (cu pre rest) :: r) = .ok (!decide (rest.take 1 = [c])) (some (cu pre rest) :: r) := by
  have a := mtO_ahead pre rest r h
  unfold tst
  simp only [op2, a, Out.bind, cst, sNe_str, S_inj]
theorem big_r {pre rest : List Nat} {c : Nat} (h : big pre (c :: rest)) : big (pre ++ [c]) rest := by
  unfold big at h ⊢
  simp at h ⊢
  omega
theorem big_a {pre a rest : List Nat} (h : big pre (a ++ rest)) : big (pre ++ a) rest := by
  unfold big at h ⊢
  simp at h ⊢
  omega
/-- a def on the cursor alone -/
theorem m1_ok {n : Nat} {b : En → SOut} {pre rest pre' rest' : List Nat} {d : D} {r : En} (h : b (some (cu pre rest) :: List.replicate n none) = .rt d (some (cu pre' rest') :: r)) : mOf (n + 1) [0] b [some (cu pre rest)] = .ok d [some (cu pre' rest')] := by
  unfold mOf
  have e : ([some (cu pre rest)] : En) ++ List.replicate (n + 1 - ([some (cu pre rest)] : En).length) none = some (cu pre rest) :: List.replicate n none := by
    simp
  rw [e, h]
  rfl
theorem m1_er {n : Nat} {b : En → SOut} {pre rest pre' rest' : List Nat} {x : Xn} {r : En} (h : b (some (cu pre rest) :: List.replicate n none) = .ex x (some (cu pre' rest') :: r)) : mOf (n + 1) [0] b [some (cu pre rest)] = .ex x [some (cu pre' rest')] := by
  unfold mOf
  have e : ([some (cu pre rest)] : En) ++ List.replicate (n + 1 - ([some (cu pre rest)] : En).length) none = some (cu pre rest) :: List.replicate n none := by
    simp
  rw [e, h]
  rfl
/-! ### count_at, whole_at -/
theorem cnt_zero (pre rest : List Nat) (h : big pre (48 :: rest)) : m_count_at [some (cu pre (48 :: rest))] = .ok (.int 0) [some (cu (pre ++ [48]) rest)] := by
  have a := eq_run pre (48 :: rest) 48 [] h
  have b := tk_ok pre rest 48 [] h
  refine m1_ok (n := 0) (r := []) ?_
  show b_count_at [some (cu pre (48 :: rest))] = _
  unfold b_count_at
  rw [s48]
  unfold sCons sIf
  rw [a]
  simp only [List.take_succ_cons, List.take_zero, decide_true, Out.st, sCons, sExpr, b, SOut.sq, sRet, cst]
theorem cnt_pos (n : Nat) (h0 : n ≠ 0) (hn : n < 200) (pre rest : List Nat) (hb : big pre (dg n ++ rest)) (hs : stop rest ∨ rest = []) : m_count_at [some (cu pre (dg n ++ rest))] = .ok (.int n) [some (cu (pre ++ dg n) rest)] := by
  obtain ⟨c, r, e, hc, _⟩ := dg_ok h0 hn
  have a := eq_run pre (dg n ++ rest) 48 [] hb
  have ne : ¬ (dg n ++ rest).take 1 = [48] := by
    rw [e]
    simp
    omega
  have b := clO_ok [] (pos_ok n h0 hn pre rest hb hs)
  refine m1_ok (n := 0) (r := []) ?_
  show b_count_at [some (cu pre (dg n ++ rest))] = _
  unfold b_count_at
  rw [s48]
  unfold sCons sIf
  rw [a]
  simp only [ne, decide_false, Out.st, sNil, SOut.sq, sCons, sRet, b]
theorem cnt_er (pre rest : List Nat) (c : Nat) (h : big pre rest) (ht : rest.take 1 = [c]) (hc : c = 32 ∨ c = 93) : m_count_at [some (cu pre rest)] = .ex ⟨4, [.int (pre.length : Nat)]⟩ [some (cu pre rest)] := by
  have a := eq_run pre rest 48 [] h
  have ne : ¬ rest.take 1 = [48] := by
    rw [ht]
    simp
    omega
  have b := clO_er [] (pos_er pre rest c h ht (by omega))
  refine m1_er (n := 0) (r := []) ?_
  show b_count_at [some (cu pre rest)] = _
  unfold b_count_at
  rw [s48]
  unfold sCons sIf
  rw [a]
  simp only [ne, decide_false, Out.st, sNil, SOut.sq, sCons, sRet, b]
theorem wh_other (pre rest pre' rest' : List Nat) (h : big pre rest) (ne : ¬ rest.take 1 = [45]) {d : D} (hc : m_count_at [some (cu pre rest)] = .ok d [some (cu pre' rest')]) : m_whole_at [some (cu pre rest)] = .ok d [some (cu pre' rest')] := by
  have a := eq_run pre rest 45 [] h
  have b := clO_ok [] hc
  refine m1_ok (n := 0) (r := []) ?_
  show b_whole_at [some (cu pre rest)] = _
  unfold b_whole_at
  rw [s45]
  unfold sCons sIf
  rw [a]
  simp only [ne, decide_false, Out.st, sNil, SOut.sq, sCons, sRet, b]
theorem wh_zero (pre rest : List Nat) (h : big pre (48 :: rest)) : m_whole_at [some (cu pre (48 :: rest))] = .ok (.int 0) [some (cu (pre ++ [48]) rest)] := wh_other _ _ _ _ h (by simp) (cnt_zero pre rest h)
theorem wh_pos (n : Nat) (h0 : n ≠ 0) (hn : n < 200) (pre rest : List Nat) (hb : big pre (dg n ++ rest)) (hs : stop rest ∨ rest = []) : m_whole_at [some (cu pre (dg n ++ rest))] = .ok (.int n) [some (cu (pre ++ dg n) rest)] := by
  obtain ⟨c, r, e, hc, _⟩ := dg_ok h0 hn
  exact wh_other _ _ _ _ hb (by rw [e]; simp; omega) (cnt_pos n h0 hn pre rest hb hs)
theorem wh_er (pre rest : List Nat) (c : Nat) (h : big pre rest) (ht : rest.take 1 = [c]) (hc : c = 32 ∨ c = 93) : m_whole_at [some (cu pre rest)] = .ex ⟨4, [.int (pre.length : Nat)]⟩ [some (cu pre rest)] := by
  have a := eq_run pre rest 45 [] h
  have ne : ¬ rest.take 1 = [45] := by
    rw [ht]
    simp
    omega
  have b := clO_er [] (cnt_er pre rest c h ht hc)
  refine m1_er (n := 0) (r := []) ?_
  show b_whole_at [some (cu pre rest)] = _
  unfold b_whole_at
  rw [s45]
  unfold sCons sIf
  rw [a]
  simp only [ne, decide_false, Out.st, sNil, SOut.sq, sCons, sRet, b]
theorem wh_neg (n : Nat) (h0 : n ≠ 0) (hn : n < 200) (pre rest : List Nat) (hb : big pre (45 :: (dg n ++ rest))) (hs : stop rest ∨ rest = []) : m_whole_at [some (cu pre (45 :: (dg n ++ rest)))] = .ok (.int (-(n : Int))) [some (cu (pre ++ 45 :: dg n) rest)] := by
  have a := eq_run pre (45 :: (dg n ++ rest)) 45 [] hb
  have b := tk_ok pre (dg n ++ rest) 45 [] hb
  have c := clO_ok [] (pos_ok n h0 hn (pre ++ [45]) rest (big_r hb) hs)
  have e : pre ++ [45] ++ dg n = pre ++ 45 :: dg n := by simp
  rw [e] at c
  refine m1_ok (n := 0) (r := []) ?_
  show b_whole_at [some (cu pre (45 :: (dg n ++ rest)))] = _
  unfold b_whole_at
  rw [s45]
  unfold sCons sIf
  rw [a]
  simp only [List.take_succ_cons, List.take_zero, decide_true, Out.st, sCons, sExpr, b, SOut.sq, sRet, iNeg, c, Out.bind]
theorem wh_negz (pre rest : List Nat) (hb : big pre (45 :: rest)) (ht : rest.take 1 = [48]) : m_whole_at [some (cu pre (45 :: rest))] = .ex ⟨4, [.int ((pre.length + 1 : Nat) : Int)]⟩ [some (cu (pre ++ [45]) rest)] := by
  have a := eq_run pre (45 :: rest) 45 [] hb
  have b := tk_ok pre rest 45 [] hb
  have c := clO_er [] (pos_er (pre ++ [45]) rest 48 (big_r hb) ht (by omega))
  have e : (pre ++ [45]).length = pre.length + 1 := by simp
  rw [e] at c
  refine m1_er (n := 0) (r := []) ?_
  show b_whole_at [some (cu pre (45 :: rest))] = _
  unfold b_whole_at
  rw [s45]
  unfold sCons sIf
  rw [a]
  simp only [List.take_succ_cons, List.take_zero, decide_true, Out.st, sCons, sExpr, b, SOut.sq, sRet, iNeg, c, Out.bind]
end K98
namespace K98
open PySem PySem.Spec PyProof.Rows L2 Ce
/-! ### Fraction -/
theorem init_run (n d : Int) (h : d ≠ 0) {k : Nat} (hb : nb d k) (hk : k < 9000) : ∃ ρ, m_FractionD_initD [some (.oi 0 []), some (.im (.int n)), some (.im (.int d))] = .ok .non (some (.oi 0 [.int (Rat.divInt n d).num, .int (Rat.divInt n d).den]) :: ρ) := by
  have e1 : divOk (sgcd n d) = true := divOk_nb (sgcd_ne h) (sgcd_nb h hb) hk
  rw [← frac_num h, ← frac_den h]
  by_cases hd : d < 0
  · have e2 : sgcd n d = -((Nat.gcd n.natAbs d.natAbs : Nat) : Int) := if_pos hd
    rw [e2] at e1 ⊢
    simp [m_FractionD_initD, mOf, b_FractionD_initD, sCons, sIf, tst, op2, rd, cst, sEq, seq, opt, Out.bind, Out.st, SOut.sq, sNil, sSet, cl1, aC, aN, k2, h, hd, iLt, ii, iNeg, sFldS, ft_num, ft_den, iDiv, e1, putD, argE, List.mapIdx, List.mapIdx.go]
  · have e2 : sgcd n d = ((Nat.gcd n.natAbs d.natAbs : Nat) : Int) := if_neg hd
    rw [e2] at e1 ⊢
    simp [m_FractionD_initD, mOf, b_FractionD_initD, sCons, sIf, tst, op2, rd, cst, sEq, seq, opt, Out.bind, Out.st, SOut.sq, sNil, sSet, cl1, aC, aN, k2, h, hd, iLt, ii, iNeg, sFldS, ft_num, ft_den, iDiv, e1, putD, argE, List.mapIdx, List.mapIdx.go]
theorem mk_run (n d : Int) (h : d ≠ 0) {k : Nat} (hb : nb d k) (hk : k < 9000) (ρ : En) : mkM 0 2 3 [] m_FractionD_initD [.int n, .int d] ρ = .ok (fr (Rat.divInt n d)) ρ := by
  obtain ⟨ρ', e⟩ := init_run n d h hb hk
  simp [mkM, onMk, e, fr]
theorem mk1_run (n : Int) (ρ : En) : mkM 0 2 3 [.int 1] m_FractionD_initD [.int n] ρ = .ok (fr n) ρ := by
  obtain ⟨ρ', e⟩ := init_run n 1 (by decide) (k := 0) (by unfold nb; decide) (by omega)
  rw [divInt_one] at e
  simp [mkM, onMk, e, fr]
end K98
namespace K98
open PySem PySem.Spec PyProof.Rows L2 Ce
/-- the text of a whole number -/
def wt (i : Int) : List Nat := if i = 0 then [48] else if 0 < i then dg i.toNat else 45 :: dg (-i).toNat
def sep (l : List Nat) : Prop := l.take 1 = [32] ∨ l.take 1 = [93]
theorem sep.stop {l : List Nat} (h : sep l) : K98.stop l := h.elim .inl fun z => .inr (.inl z)
theorem wh_ok (i : Int) (hi : i.natAbs < 200) (pre rest : List Nat) (hb : big pre (wt i ++ rest)) (hs : stop rest ∨ rest = []) : m_whole_at [some (cu pre (wt i ++ rest))] = .ok (.int i) [some (cu (pre ++ wt i) rest)] := by
  by_cases h0 : i = 0
  · subst h0
    exact wh_zero pre rest hb
  · by_cases h1 : 0 < i
    · obtain ⟨n, rfl⟩ : ∃ n : Nat, i = n := ⟨i.toNat, by omega⟩
      have e : wt (n : Int) = dg n := by rw [wt, if_neg h0, if_pos h1, Int.toNat_natCast]
      rw [e] at hb ⊢
      exact wh_pos n (by omega) (by omega) pre rest hb hs
    · obtain ⟨n, rfl⟩ : ∃ n : Nat, i = -(n : Int) := ⟨(-i).toNat, by omega⟩
      have e : wt (-(n : Int)) = 45 :: dg n := by
        rw [wt, if_neg h0, if_neg h1]
        congr 2
        omega
      rw [e] at hb ⊢
      exact wh_neg n (by omega) (by omega) pre rest hb hs
abbrev fS1 (pre rest : List Nat) (i : Int) : En := [some (cu pre rest), some (.im (.int i)), none, none]
theorem fr_set {pre rest pre' rest' : List Nat} {i : Int} (h : m_whole_at [some (cu pre rest)] = .ok (.int i) [some (cu pre' rest')]) : (sSet 1 (clO 0 1 m_whole_at oN)) [some (cu pre rest), none, none, none] = .nx (fS1 pre' rest' i) := by
  unfold sSet
  rw [clO_ok [none, none, none] h]
  rfl
/-- a whole number -/
theorem fr_whole {pre rest pre' rest' : List Nat} {i : Int} (h : m_whole_at [some (cu pre rest)] = .ok (.int i) [some (cu pre' rest')]) (hb : big pre' rest') (hs : ¬ rest'.take 1 = [47]) : m_fraction_at [some (cu pre rest)] = .ok (fr i) [some (cu pre' rest')] := by
  have a := ne_run pre' rest' 47 [some (.im (.int i)), none, none] hb
  have m := mk1_run i
  refine m1_ok (n := 3) (r := [some (.im (.int i)), none, none]) ?_
  show b_fraction_at [some (cu pre rest), none, none, none] = _
  unfold b_fraction_at
  rw [s47]
  refine (sCons_nx (fr_set h)).trans ?_
  refine sCons_rt ?_
  unfold sIf
  rw [a]
  simp only [hs, decide_false, Bool.not_false, Out.st]
  refine sCons_rt ?_
  unfold sRet cl1
  show Out.st (mkM 0 2 3 [.int 1] m_FractionD_initD [.int i] _) _ = _
  rw [m]
  rfl
theorem fr_er {pre rest pre' rest' : List Nat} {x : Xn} (h : m_whole_at [some (cu pre rest)] = .ex x [some (cu pre' rest')]) : m_fraction_at [some (cu pre rest)] = .ex x [some (cu pre' rest')] := by
  refine m1_er (n := 3) (r := [none, none, none]) ?_
  show b_fraction_at [some (cu pre rest), none, none, none] = _
  unfold b_fraction_at sCons sSet
  rw [clO_er [none, none, none] h]
  rfl
theorem fr_slash {pre rest pre' rest' : List Nat} {i : Int} (h : m_whole_at [some (cu pre rest)] = .ok (.int i) [some (cu pre' (47 :: rest'))]) (hb : big pre' (47 :: rest')) {r : SOut}
    (hr : (sCons (sSet 2 (clO 0 1 m_positive_at oN)) (sCons (sSet 3 (cl1 (mkM 0 2 3 [] m_FractionD_initD) (aC (rd 1) (aC (rd 2) aN)))) (sCons (sIf (tOr2 (tst (op2 sEq (rd 2) (cst (.int 1)))) (tst (op2 sNe (fld ft_den (rd 3)) (rd 2)))) (sCons (sExpr (mtO 3 0 1 m_Cursor_refuse oN)) sNil) sNil) (sCons (sRet (rd 3)) sNil)))) (fS1 (pre' ++ [47]) rest' i) = r) :
    b_fraction_at [some (cu pre rest), none, none, none] = r := by
  have a := ne_run pre' (47 :: rest') 47 [some (.im (.int i)), none, none] hb
  have b := tk_ok pre' rest' 47 [some (.im (.int i)), none, none] hb
  unfold b_fraction_at
  rw [s47]
  refine (sCons_nx (fr_set h)).trans ?_
  refine (sCons_nx (ρ1 := fS1 pre' (47 :: rest') i) ?_).trans ?_
  · unfold sIf
    rw [a]
    simp only [List.take_succ_cons, List.take_zero, decide_true, Bool.not_true, Out.st, sNil]
  · refine (sCons_nx (ρ1 := fS1 (pre' ++ [47]) rest' i) ?_).trans hr
    unfold sExpr
    rw [b]
    rfl
theorem fr_tail (pre rest : List Nat) (i : Int) (n : Nat) (h0 : n ≠ 0) (hn : n < 200) (hb : big pre (dg n ++ rest)) (hs : stop rest ∨ rest = []) :
    (sCons (sSet 2 (clO 0 1 m_positive_at oN)) (sCons (sSet 3 (cl1 (mkM 0 2 3 [] m_FractionD_initD) (aC (rd 1) (aC (rd 2) aN)))) (sCons (sIf (tOr2 (tst (op2 sEq (rd 2) (cst (.int 1)))) (tst (op2 sNe (fld ft_den (rd 3)) (rd 2)))) (sCons (sExpr (mtO 3 0 1 m_Cursor_refuse oN)) sNil) sNil) (sCons (sRet (rd 3)) sNil)))) (fS1 pre (dg n ++ rest) i) =
    if n = 1 ∨ (Rat.divInt i n).den ≠ n then .ex ⟨4, [.int ((pre.length + (dg n).length : Nat) : Int)]⟩ [some (cu (pre ++ dg n) rest), some (.im (.int i)), some (.im (.int n)), some (.im (fr (Rat.divInt i n)))] else .rt (fr (Rat.divInt i n)) [some (cu (pre ++ dg n) rest), some (.im (.int i)), some (.im (.int n)), some (.im (fr (Rat.divInt i n)))] := by
  have c := clO_ok [some (.im (.int i)), none, none] (pos_ok n h0 hn pre rest hb hs)
  have m := mk_run i n (by omega) (k := 8) (by unfold nb; omega) (by omega)
  have f := mtO_refuse (pre ++ dg n) rest [some (.im (.int i)), some (.im (.int n)), some (.im (fr (Rat.divInt i n)))]
  rw [List.length_append] at f
  refine (sCons_nx (ρ1 := [some (cu (pre ++ dg n) rest), some (.im (.int i)), some (.im (.int n)), none]) ?_).trans ?_
  · unfold sSet
    rw [c]
    rfl
  refine (sCons_nx (ρ1 := [some (cu (pre ++ dg n) rest), some (.im (.int i)), some (.im (.int n)), some (.im (fr (Rat.divInt i n)))]) ?_).trans ?_
  · unfold sSet cl1
    show Out.st (mkM 0 2 3 [] m_FractionD_initD [.int i, .int n] _) _ = _
    rw [m]
    rfl
  have t : (tOr2 (tst (op2 sEq (rd 2) (cst (.int 1)))) (tst (op2 sNe (fld ft_den (rd 3)) (rd 2)))) [some (cu (pre ++ dg n) rest), some (.im (.int i)), some (.im (.int n)), some (.im (fr (Rat.divInt i n)))] = .ok (decide (n = 1 ∨ (Rat.divInt i n).den ≠ n)) [some (cu (pre ++ dg n) rest), some (.im (.int i)), some (.im (.int n)), some (.im (fr (Rat.divInt i n)))] := by
    have t1 : op2 sEq (rd 2) (cst (.int 1)) [some (cu (pre ++ dg n) rest), some (.im (.int i)), some (.im (.int n)), some (.im (fr (Rat.divInt i n)))] = .ok (.bl (decide ((n : Int) = 1))) [some (cu (pre ++ dg n) rest), some (.im (.int i)), some (.im (.int n)), some (.im (fr (Rat.divInt i n)))] := rfl
    have t2 : op2 sNe (fld ft_den (rd 3)) (rd 2) [some (cu (pre ++ dg n) rest), some (.im (.int i)), some (.im (.int n)), some (.im (fr (Rat.divInt i n)))] = .ok (.bl (!decide (((Rat.divInt i n).den : Int) = n))) [some (cu (pre ++ dg n) rest), some (.im (.int i)), some (.im (.int n)), some (.im (fr (Rat.divInt i n)))] := rfl
    unfold tOr2 tst
    rw [t1]
    by_cases h1 : n = 1
    · have h1' : (n : Int) = 1 := by omega
      rw [decide_eq_true h1', decide_eq_true (show n = 1 ∨ (Rat.divInt i n).den ≠ n from .inl h1)]
      rfl
    · have h1' : ¬ (n : Int) = 1 := by omega
      simp only [Out.bind, h1', decide_false]
      rw [t2]
      by_cases h2 : (Rat.divInt i n).den = n
      · have h2' : ((Rat.divInt i n).den : Int) = n := by omega
        simp only [Out.bind, h2', decide_true, Bool.not_true, h1, h2, ne_eq, not_true_eq_false, or_self, decide_false]
      · have h2' : ¬ ((Rat.divInt i n).den : Int) = n := by omega
        simp only [Out.bind, h2', decide_false, Bool.not_false, h1, h2, ne_eq, not_false_eq_true, or_true, decide_true]
  by_cases hc : n = 1 ∨ (Rat.divInt i n).den ≠ n
  · rw [if_pos hc]
    unfold sCons sIf
    rw [t, decide_eq_true hc]
    simp only [Out.st, sCons, sExpr, f, SOut.sq]
  · rw [if_neg hc]
    refine (sCons_nx (ρ1 := [some (cu (pre ++ dg n) rest), some (.im (.int i)), some (.im (.int n)), some (.im (fr (Rat.divInt i n)))]) ?_).trans ?_
    · unfold sIf
      rw [t, decide_eq_false hc]
      rfl
    · rfl
/-- the text of a fraction -/
def ft (x : Rat) : List Nat := wt x.num ++ if x.den = 1 then [] else 47 :: dg x.den
def okq (x : Rat) : Prop := x.num.natAbs < 200 ∧ x.den < 200
theorem fr_ok (x : Rat) (hx : okq x) (pre rest : List Nat) (hb : big pre (ft x ++ rest)) (hs : sep rest) : m_fraction_at [some (cu pre (ft x ++ rest))] = .ok (fr x) [some (cu (pre ++ ft x) rest)] := by
  have no47 : ¬ rest.take 1 = [47] := by
    intro z
    rcases hs with e | e <;> rw [e] at z <;> simp at z
  by_cases hd : x.den = 1
  · have e : ft x = wt x.num := by rw [ft, if_pos hd, List.append_nil]
    have ex : x = ((x.num : Int) : Rat) := by
      refine Rat.ext rfl ?_
      rw [hd]
      rfl
    rw [e] at hb ⊢
    have z := fr_whole (wh_ok x.num hx.1 pre rest hb (.inl hs.stop)) (big_a hb) no47
    rw [← ex] at z
    exact z
  · have e : ft x ++ rest = wt x.num ++ 47 :: (dg x.den ++ rest) := by rw [ft, if_neg hd]; simp
    have e2 : pre ++ ft x = pre ++ wt x.num ++ [47] ++ dg x.den := by rw [ft, if_neg hd]; simp
    rw [e] at hb ⊢
    rw [e2]
    have w := wh_ok x.num hx.1 pre (47 :: (dg x.den ++ rest)) hb (.inl (.inr (.inr rfl)))
    have t := fr_tail (pre ++ wt x.num ++ [47]) rest x.num x.den x.den_nz hx.2 (big_r (big_a hb)) (.inl hs.stop)
    have q : Rat.divInt x.num x.den = x := Rat.num_divInt_den x
    rw [q, if_neg (by omega)] at t
    refine m1_ok (n := 3) (r := [some (.im (.int x.num)), some (.im (.int x.den)), some (.im (fr x))]) ?_
    show b_fraction_at [some (cu pre (wt x.num ++ 47 :: (dg x.den ++ rest))), none, none, none] = _
    exact fr_slash w (big_a hb) t
/-! ### texts that are no fractions -/
/-- m stops at the k-th sign of t -/
def Er (m : En → Out D) (t : List Nat) (k : Nat) (rest : List Nat) : Prop := ∀ pre, big pre (t ++ rest) → ∃ pre' rest', m [some (cu pre (t ++ rest))] = .ex ⟨4, [.int ((pre.length + k : Nat) : Int)]⟩ [some (cu pre' rest')]
theorem er_slash (i : Int) (hi : i.natAbs < 200) (n : Nat) (h0 : n ≠ 0) (hn : n < 200) (hc : n = 1 ∨ (Rat.divInt i n).den ≠ n) (rest : List Nat) (hs : sep rest) : Er m_fraction_at (wt i ++ 47 :: dg n) ((wt i).length + 1 + (dg n).length) rest := by
  intro pre hb
  have e : wt i ++ 47 :: dg n ++ rest = wt i ++ 47 :: (dg n ++ rest) := by simp
  rw [e] at hb ⊢
  have w := wh_ok i hi pre (47 :: (dg n ++ rest)) hb (.inl (.inr (.inr rfl)))
  have t := fr_tail (pre ++ wt i ++ [47]) rest i n h0 hn (big_r (big_a hb)) (.inl hs.stop)
  rw [if_pos hc] at t
  have el : (pre ++ wt i ++ [47]).length + (dg n).length = pre.length + ((wt i).length + 1 + (dg n).length) := by simp; omega
  rw [el] at t
  exact ⟨_, _, m1_er (n := 3) (r := [some (.im (.int i)), some (.im (.int n)), some (.im (fr (Rat.divInt i n)))]) (fr_slash w (big_a hb) t)⟩
theorem er_over0 (i : Int) (hi : i.natAbs < 200) (rest : List Nat) (hs : rest.take 1 = [48]) : Er m_fraction_at (wt i ++ [47]) ((wt i).length + 1) rest := by
  intro pre hb
  have e : wt i ++ [47] ++ rest = wt i ++ 47 :: rest := by simp
  rw [e] at hb ⊢
  have w := wh_ok i hi pre (47 :: rest) hb (.inl (.inr (.inr rfl)))
  have c := clO_er [some (.im (.int i)), none, none] (pos_er (pre ++ wt i ++ [47]) rest 48 (big_r (big_a hb)) hs (by omega))
  have el : (pre ++ wt i ++ [47]).length = pre.length + ((wt i).length + 1) := by simp
  rw [el] at c
  refine ⟨_, _, m1_er (n := 3) (pre' := pre ++ wt i ++ [47]) (rest' := rest) (r := [some (.im (.int i)), none, none]) (fr_slash w (big_a hb) ?_)⟩
  unfold sCons sSet
  rw [c]
  rfl
theorem er_neg0 (rest : List Nat) (hs : rest.take 1 = [48]) : Er m_fraction_at [45] 1 rest := fun pre hb => ⟨_, _, fr_er (wh_negz pre rest hb hs)⟩
theorem er_blank (rest : List Nat) (c : Nat) (hs : rest.take 1 = [c]) (hc : c = 32 ∨ c = 93) : Er m_fraction_at [] 0 rest := fun pre hb => ⟨_, _, fr_er (wh_er pre rest c hb hs hc)⟩
/-- a leading zero is read as 0 -/
theorem zero_ok (pre rest : List Nat) (hb : big pre (48 :: rest)) (hs : ¬ rest.take 1 = [47]) : m_fraction_at [some (cu pre (48 :: rest))] = .ok (fr ((0 : Int) : Rat)) [some (cu (pre ++ [48]) rest)] := fr_whole (wh_zero pre rest hb) (big_r hb) hs
end K98
namespace K98
open PySem PySem.Spec PyProof.Rows L2 Ce
/-! ### lists of things -/
def cL : En → Out Bool := (tst (op2 sEq (mtO 3 0 1 m_Cursor_ahead oN) (cst (.str (PySem.Str.ofString " ")))))
def bLp (k : Nat) (m : En → Out D) : En → SOut := (sCons (sExpr (mtO 3 0 2 m_Cursor_take (oC (cst (.str (PySem.Str.ofString " "))) oN))) (sCons (sApp 4 (lcO 3 k 0 1 m oN)) sNil))
def bL (k : Nat) (m : En → Out D) : En → SOut := (sCons (sExpr (mtO 3 0 2 m_Cursor_take (oC (rd 1) oN))) (sCons (sSetN 4 (nLst aN)) (sCons (sIf (tst (op2 sNe (mtO 3 0 1 m_Cursor_ahead oN) (rd 2))) (sCons (sApp 4 (lcO 3 k 0 1 m oN)) (sCons (whL cL (bLp k m) 1000000000) sNil)) sNil) (sCons (sExpr (mtO 3 0 2 m_Cursor_take (oC (rd 2) oN))) (sCons (sRet (rd 4)) sNil)))))
theorem bL_f : b_listed_at_fraction_at = bL 5 m_fraction_at := rfl
theorem bL_p : b_listed_at_poly_at = bL 6 m_poly_at := rfl
/-- m reads t as d, where P says what follows -/
def Ro (m : En → Out D) (P : List Nat → Prop) (t : List Nat) (d : D) : Prop := ∀ pre rest, big pre (t ++ rest) → P rest → m [some (cu pre (t ++ rest))] = .ok d [some (cu (pre ++ t) rest)]
def nxt (c : Nat) (l : List Nat) : Prop := l.take 1 = [32] ∨ l.take 1 = [c]
abbrev sl (pre rest : List Nat) (o c k : Nat) (es : List D) : En := [some (cu pre rest), some (.im (.str (S [o]))), some (.im (.str (S [c]))), some (.fn k), some (.ol es)]
theorem app_ok {m : En → Out D} {pre rest pre' rest' : List Nat} {d : D} {o c k : Nat} {es : List D} (h : m [some (cu pre rest)] = .ok d [some (cu pre' rest')]) (hl : es.length < 1000) : (sApp 4 (lcO 3 k 0 1 m oN)) (sl pre rest o c k es) = .nx (sl pre' rest' o c k (es ++ [d])) := by
  have hz : es.length < sizeLine := by rw [sizeLine_eq]; omega
  have e := clO_ok [some (.im (.str (S [o]))), some (.im (.str (S [c]))), some (.fn k), some (.ol es)] h
  have e2 : lcO 3 k 0 1 m oN (sl pre rest o c k es) = .ok d (sl pre' rest' o c k es) := by
    unfold lcO
    simp only [List.getElem?_cons_succ, List.getElem?_cons_zero, decide_true, if_true]
    exact e
  unfold sApp
  show Out.st (lcO 3 k 0 1 m oN (sl pre rest o c k es)) _ = _
  rw [e2]
  simp only [Out.st, List.getElem?_cons_succ, List.getElem?_cons_zero, hz, decide_true, if_true, List.set_cons_succ, List.set_cons_zero]
theorem app_er {m : En → Out D} {pre rest pre' rest' : List Nat} {x : Xn} {o c k : Nat} {es : List D} (h : m [some (cu pre rest)] = .ex x [some (cu pre' rest')]) : (sApp 4 (lcO 3 k 0 1 m oN)) (sl pre rest o c k es) = .ex x (sl pre' rest' o c k es) := by
  have e := clO_er [some (.im (.str (S [o]))), some (.im (.str (S [c]))), some (.fn k), some (.ol es)] h
  have e2 : lcO 3 k 0 1 m oN (sl pre rest o c k es) = .ex x (sl pre' rest' o c k es) := by
    unfold lcO
    simp only [List.getElem?_cons_succ, List.getElem?_cons_zero, decide_true, if_true]
    exact e
  unfold sApp
  show Out.st (lcO 3 k 0 1 m oN (sl pre rest o c k es)) _ = _
  rw [e2]
  rfl
theorem bLp_ok {m : En → Out D} {pre rest pre' rest' : List Nat} {d : D} {o c k : Nat} {es : List D} (hb : big pre (32 :: rest)) (h : m [some (cu (pre ++ [32]) rest)] = .ok d [some (cu pre' rest')]) (hl : es.length < 1000) : bLp k m (sl pre (32 :: rest) o c k es) = .nx (sl pre' rest' o c k (es ++ [d])) := by
  have t := tk_ok pre rest 32 [some (.im (.str (S [o]))), some (.im (.str (S [c]))), some (.fn k), some (.ol es)] hb
  unfold bLp
  rw [s32]
  refine (sCons_nx (ρ1 := sl (pre ++ [32]) rest o c k es) ?_).trans ?_
  · unfold sExpr
    rw [t]
    rfl
  · exact (sCons_nx (app_ok h hl)).trans rfl
theorem bLp_er {m : En → Out D} {pre rest pre' rest' : List Nat} {x : Xn} {o c k : Nat} {es : List D} (hb : big pre (32 :: rest)) (h : m [some (cu (pre ++ [32]) rest)] = .ex x [some (cu pre' rest')]) : bLp k m (sl pre (32 :: rest) o c k es) = .ex x (sl pre' rest' o c k es) := by
  have t := tk_ok pre rest 32 [some (.im (.str (S [o]))), some (.im (.str (S [c]))), some (.fn k), some (.ol es)] hb
  unfold bLp
  rw [s32]
  refine (sCons_nx (ρ1 := sl (pre ++ [32]) rest o c k es) ?_).trans ?_
  · unfold sExpr
    rw [t]
    rfl
  · unfold sCons
    rw [app_er h]
    rfl
theorem cL_run (pre rest : List Nat) (o c k : Nat) (es : List D) (hb : big pre rest) : cL (sl pre rest o c k es) = .ok (decide (rest.take 1 = [32])) (sl pre rest o c k es) := by
  unfold cL
  rw [s32]
  exact eq_run pre rest 32 _ hb
/-- texts, each behind a space -/
def jn : List (List Nat) → List Nat
  | [] => []
  | t :: ts => 32 :: (t ++ jn ts)
theorem jn_app : ∀ (a b : List (List Nat)), jn (a ++ b) = jn a ++ jn b
  | [], b => rfl
  | t :: a, b => by simp [jn, jn_app a b]
inductive All2 (m : En → Out D) (P : List Nat → Prop) : List (List Nat) → List D → Prop
  | nil : All2 m P [] []
  | cons {t : List Nat} {d : D} {ts : List (List Nat)} {ds : List D} (h : Ro m P t d) (l : All2 m P ts ds) : All2 m P (t :: ts) (d :: ds)
theorem All2.len {m : En → Out D} {P : List Nat → Prop} : ∀ {ts : List (List Nat)} {ds : List D}, All2 m P ts ds → ts.length = ds.length
  | _, _, .nil => rfl
  | _, _, .cons _ l => congrArg (· + 1) l.len
theorem nxt_jn {c : Nat} (ts : List (List Nat)) (rest : List Nat) (h : nxt c rest) : nxt c (jn ts ++ rest) := by
  cases ts with
  | nil => exact h
  | cons t ts => exact .inl rfl
theorem loop_go {m : En → Out D} {c : Nat} (o k : Nat) : ∀ {ts : List (List Nat)} {ds : List D}, All2 m (nxt c) ts ds → ∀ (n : Nat) (pre rest : List Nat) (es : List D), big pre (jn ts ++ rest) → nxt c rest → es.length + ts.length < 1000 →
    whL cL (bLp k m) (n + ts.length) (sl pre (jn ts ++ rest) o c k es) = whL cL (bLp k m) n (sl (pre ++ jn ts) rest o c k (es ++ ds))
  | _, _, .nil, n, pre, rest, es, hb, hr, hl => by simp [jn]
  | _, _, .cons (t := t) (d := d) (ts := ts) (ds := ds) h l, n, pre, rest, es, hb, hr, hl => by
    have hb0 : big pre (32 :: (t ++ (jn ts ++ rest))) := by
      have e : jn (t :: ts) ++ rest = 32 :: (t ++ (jn ts ++ rest)) := by simp [jn]
      rwa [e] at hb
    have a := cL_run pre (32 :: (t ++ (jn ts ++ rest))) o c k es hb0
    have b := bLp_ok (o := o) (c := c) (k := k) (es := es) hb0 (h (pre ++ [32]) (jn ts ++ rest) (big_r hb0) (nxt_jn ts rest hr)) (by omega)
    have ih := loop_go o k l n (pre ++ [32] ++ t) rest (es ++ [d]) (big_a (big_r hb0)) hr (by simp at hl ⊢; omega)
    have e : jn (t :: ts) ++ rest = 32 :: (t ++ (jn ts ++ rest)) := by simp [jn]
    have e2 : pre ++ [32] ++ t ++ jn ts = pre ++ jn (t :: ts) := by simp [jn]
    have e3 : es ++ [d] ++ ds = es ++ d :: ds := by simp
    rw [e2, e3] at ih
    rw [e, List.length_cons, ← Nat.add_assoc, whL, a]
    simp only [List.take_succ_cons, List.take_zero, decide_true, Out.st]
    rw [b]
    exact ih
theorem loop_ok {m : En → Out D} {c : Nat} (o k : Nat) {ts : List (List Nat)} {ds : List D} (h : All2 m (nxt c) ts ds) (pre rest : List Nat) (es : List D) (hc : c ≠ 32) (hb : big pre (jn ts ++ c :: rest)) (hl : es.length + ts.length < 1000) :
    whL cL (bLp k m) 1000000000 (sl pre (jn ts ++ c :: rest) o c k es) = .nx (sl (pre ++ jn ts) (c :: rest) o c k (es ++ ds)) := by
  have z := loop_go o k h (1000000000 - ts.length) pre (c :: rest) es hb (.inr rfl) hl
  rw [Nat.sub_add_cancel (by omega)] at z
  rw [z]
  obtain ⟨n, e⟩ : ∃ n, 1000000000 - ts.length = n + 1 := ⟨1000000000 - ts.length - 1, by omega⟩
  have a := cL_run (pre ++ jn ts) (c :: rest) o c k (es ++ ds) (big_a hb)
  have ne : ¬ (c :: rest).take 1 = [32] := by simp [hc]
  rw [e, whL, a]
  simp only [ne, decide_false, Out.st]
/-- the loop ends at a sign that is no space -/
theorem loop_end {m : En → Out D} {c : Nat} (o k : Nat) (pre rest : List Nat) (es : List D) (hb : big pre rest) (ne : ¬ rest.take 1 = [32]) : whL cL (bLp k m) 1000000000 (sl pre rest o c k es) = .nx (sl pre rest o c k es) := by
  have a := cL_run pre rest o c k es hb
  have e : (1000000000 : Nat) = 999999999 + 1 := rfl
  rw [e, whL, a]
  simp only [ne, decide_false, Out.st]
theorem loop_er {m : En → Out D} {c : Nat} (o k : Nat) {ts : List (List Nat)} {ds : List D} (h : All2 m (nxt c) ts ds) (pre u rest : List Nat) (es : List D) (kk : Nat) (hu : Er m u kk rest) (hb : big pre (jn ts ++ 32 :: (u ++ rest))) (hl : es.length + ts.length < 1000) :
    ∃ pre' rest' es', whL cL (bLp k m) 1000000000 (sl pre (jn ts ++ 32 :: (u ++ rest)) o c k es) = .ex ⟨4, [.int ((pre.length + (jn ts).length + 1 + kk : Nat) : Int)]⟩ (sl pre' rest' o c k es') := by
  have z := loop_go o k h (1000000000 - ts.length) pre (32 :: (u ++ rest)) es hb (.inl rfl) hl
  rw [Nat.sub_add_cancel (by omega)] at z
  obtain ⟨n, e⟩ : ∃ n, 1000000000 - ts.length = n + 1 := ⟨1000000000 - ts.length - 1, by omega⟩
  have hb1 : big (pre ++ jn ts) (32 :: (u ++ rest)) := big_a hb
  have a := cL_run (pre ++ jn ts) (32 :: (u ++ rest)) o c k (es ++ ds) hb1
  obtain ⟨pre', rest', q⟩ := hu (pre ++ jn ts ++ [32]) (big_r hb1)
  have el : (pre ++ jn ts ++ [32]).length + kk = pre.length + (jn ts).length + 1 + kk := by simp; omega
  rw [el] at q
  have b := bLp_er (o := o) (c := c) (k := k) (es := es ++ ds) hb1 q
  refine ⟨pre', rest', es ++ ds, ?_⟩
  rw [z, e, whL, a]
  simp only [List.take_succ_cons, List.take_zero, decide_true, Out.st]
  rw [b]
end K98
namespace K98
open PySem PySem.Spec PyProof.Rows L2 Ce
def mL (k : Nat) (m : En → Out D) : En → Out D := mOf 5 [0] (bL k m)
/-- texts with spaces between -/
def jb : List (List Nat) → List Nat
  | [] => []
  | t :: ts => t ++ jn ts
/-- texts, a space behind each -/
def ld : List (List Nat) → List Nat
  | [] => []
  | t :: ts => t ++ (32 :: ld ts)
theorem ld_cons (t : List Nat) (ts : List (List Nat)) : ld (t :: ts) = t ++ (jn ts ++ [32]) := by
  induction ts generalizing t with
  | nil => simp [ld, jn]
  | cons s ts ih => rw [ld, ih]; simp [jn]
abbrev ar (pre rest : List Nat) (o c k : Nat) : En := [some (cu pre rest), some (.im (.str (S [o]))), some (.im (.str (S [c]))), some (.fn k)]
abbrev s0 (pre rest : List Nat) (o c k : Nat) : En := [some (cu pre rest), some (.im (.str (S [o]))), some (.im (.str (S [c]))), some (.fn k), none]
theorem mL_rt {k o c : Nat} {m : En → Out D} {pre rest pre' rest' : List Nat} {d : D} {r : En} (h : bL k m (s0 pre rest o c k) = .rt d (some (cu pre' rest') :: r)) : ∃ r', mL k m (ar pre rest o c k) = .ok d (some (cu pre' rest') :: r') := by
  refine ⟨[some (.im (.str (S [o]))), some (.im (.str (S [c]))), none], ?_⟩
  unfold mL mOf
  show (match bL k m (s0 pre rest o c k) with
    | .nx ρ' => Out.ok D.non (argE [0] (ar pre rest o c k) ρ')
    | .rt d ρ' => .ok d (argE [0] (ar pre rest o c k) ρ')
    | .ex x ρ' => .ex x (argE [0] (ar pre rest o c k) ρ')
    | _ => .er) = _
  rw [h]
  rfl
theorem mL_ex {k o c : Nat} {m : En → Out D} {pre rest pre' rest' : List Nat} {x : Xn} {r : En} (h : bL k m (s0 pre rest o c k) = .ex x (some (cu pre' rest') :: r)) : ∃ r', mL k m (ar pre rest o c k) = .ex x (some (cu pre' rest') :: r') := by
  refine ⟨[some (.im (.str (S [o]))), some (.im (.str (S [c]))), none], ?_⟩
  unfold mL mOf
  show (match bL k m (s0 pre rest o c k) with
    | .nx ρ' => Out.ok D.non (argE [0] (ar pre rest o c k) ρ')
    | .rt d ρ' => .ok d (argE [0] (ar pre rest o c k) ρ')
    | .ex x ρ' => .ex x (argE [0] (ar pre rest o c k) ρ')
    | _ => .er) = _
  rw [h]
  rfl
def bT (k : Nat) (m : En → Out D) : En → SOut := (sIf (tst (op2 sNe (mtO 3 0 1 m_Cursor_ahead oN) (rd 2))) (sCons (sApp 4 (lcO 3 k 0 1 m oN)) (sCons (whL cL (bLp k m) 1000000000) sNil)) sNil)
def bC : En → SOut := (sCons (sExpr (mtO 3 0 2 m_Cursor_take (oC (rd 2) oN))) (sCons (sRet (rd 4)) sNil))
theorem bL_open {k o c : Nat} {m : En → Out D} {pre rest : List Nat} (hb : big pre (o :: rest)) : bL k m (s0 pre (o :: rest) o c k) = sCons (bT k m) bC (sl (pre ++ [o]) rest o c k []) := by
  have t := take_ok pre rest o hb
  unfold bL
  refine (sCons_nx (ρ1 := s0 (pre ++ [o]) rest o c k) ?_).trans ?_
  · unfold sExpr
    have e : mtO 3 0 2 m_Cursor_take (oC (rd 1) oN) (s0 pre (o :: rest) o c k) = .ok .non (s0 (pre ++ [o]) rest o c k) := by
      simp [mtO, onO, oC, oN, rd, Out.bind, t]
    rw [e]
    rfl
  · exact (sCons_nx (ρ1 := sl (pre ++ [o]) rest o c k []) rfl).trans rfl
/-- m fails to take the opening sign -/
theorem bL_noopen {k o c : Nat} {m : En → Out D} {pre rest : List Nat} (hb : big pre rest) (ne : rest.take 1 ≠ [o]) : bL k m (s0 pre rest o c k) = .ex ⟨4, [.int (pre.length : Nat)]⟩ (s0 pre rest o c k) := by
  obtain ⟨r', t⟩ := take_er pre rest o hb ne
  unfold bL sCons sExpr
  have e : mtO 3 0 2 m_Cursor_take (oC (rd 1) oN) (s0 pre rest o c k) = .ex ⟨4, [.int (pre.length : Nat)]⟩ (s0 pre rest o c k) := by
    simp [mtO, onO, oC, oN, rd, Out.bind, t]
  rw [e]
  rfl
theorem bC_ok {k o c : Nat} {pre rest : List Nat} {es : List D} (hb : big pre (c :: rest)) : ∃ r, bC (sl pre (c :: rest) o c k es) = .rt (.lst es) (some (cu (pre ++ [c]) rest) :: r) := by
  have t := take_ok pre rest c hb
  refine ⟨[some (.im (.str (S [o]))), some (.im (.str (S [c]))), some (.fn k), some (.im (.lst es))], ?_⟩
  unfold bC
  refine (sCons_nx (ρ1 := sl (pre ++ [c]) rest o c k es) ?_).trans ?_
  · unfold sExpr
    have e : mtO 3 0 2 m_Cursor_take (oC (rd 2) oN) (sl pre (c :: rest) o c k es) = .ok .non (sl (pre ++ [c]) rest o c k es) := by
      simp [mtO, onO, oC, oN, rd, Out.bind, t]
    rw [e]
    rfl
  · rfl
theorem bC_er {k o c : Nat} {pre rest : List Nat} {es : List D} (hb : big pre rest) (ne : rest.take 1 ≠ [c]) : ∃ r, bC (sl pre rest o c k es) = .ex ⟨4, [.int (pre.length : Nat)]⟩ (some (cu pre rest) :: r) := by
  obtain ⟨r', t⟩ := take_er pre rest c hb ne
  refine ⟨[some (.im (.str (S [o]))), some (.im (.str (S [c]))), some (.fn k), some (.ol es)], ?_⟩
  unfold bC sCons sExpr
  have e : mtO 3 0 2 m_Cursor_take (oC (rd 2) oN) (sl pre rest o c k es) = .ex ⟨4, [.int (pre.length : Nat)]⟩ (sl pre rest o c k es) := by
    simp [mtO, onO, oC, oN, rd, Out.bind, t]
  rw [e]
  rfl
/-- the sign ahead is the closing one, or not -/
theorem bT_if {k o c : Nat} {m : En → Out D} {pre rest : List Nat} {es : List D} (hb : big pre rest) : bT k m (sl pre rest o c k es) = if rest.take 1 = [c] then .nx (sl pre rest o c k es) else (sCons (sApp 4 (lcO 3 k 0 1 m oN)) (sCons (whL cL (bLp k m) 1000000000) sNil)) (sl pre rest o c k es) := by
  have a := mtO_ahead pre rest [some (.im (.str (S [o]))), some (.im (.str (S [c]))), some (.fn k), some (.ol es)] hb
  have e : tst (op2 sNe (mtO 3 0 1 m_Cursor_ahead oN) (rd 2)) (sl pre rest o c k es) = .ok (!decide (rest.take 1 = [c])) (sl pre rest o c k es) := by
    have r2 : rd 2 (sl pre rest o c k es) = .ok (.str (S [c])) (sl pre rest o c k es) := rfl
    unfold tst op2
    rw [a]
    simp only [Out.bind]
    rw [r2]
    simp only [sNe_str, S_inj]
  unfold bT sIf
  rw [e]
  by_cases h : rest.take 1 = [c]
  · rw [if_pos h, decide_eq_true h]
    rfl
  · rw [if_neg h, decide_eq_false h]
    rfl
theorem big_app {pre a b : List Nat} (h : big pre (a ++ b)) : big (pre ++ a) b := big_a h
theorem list_empty {k o c : Nat} {m : En → Out D} {pre rest : List Nat} (hb : big pre (o :: c :: rest)) : ∃ r, mL k m (ar pre (o :: c :: rest) o c k) = .ok (.lst []) (some (cu (pre ++ [o, c]) rest) :: r) := by
  obtain ⟨r, q⟩ := bC_ok (k := k) (o := o) (es := []) (big_r hb)
  have e : pre ++ [o, c] = pre ++ [o] ++ [c] := by simp
  rw [e]
  refine mL_rt (r := r) ?_
  rw [bL_open hb]
  refine (sCons_nx (ρ1 := sl (pre ++ [o]) (c :: rest) o c k []) ?_).trans q
  rw [bT_if (big_r hb), if_pos (show (c :: rest).take 1 = [c] from rfl)]
theorem list_ok {k o c : Nat} {m : En → Out D} {t0 : List Nat} {d0 : D} {ts : List (List Nat)} {ds : List D} (hc : c ≠ 32) (h0 : Ro m (nxt c) t0 d0) (h : All2 m (nxt c) ts ds) (hl : ts.length < 900) {pre rest : List Nat} (hb : big pre (o :: (t0 ++ (jn ts ++ c :: rest)))) (ne : ¬ (t0 ++ (jn ts ++ c :: rest)).take 1 = [c]) :
    ∃ r, mL k m (ar pre (o :: (t0 ++ (jn ts ++ c :: rest))) o c k) = .ok (.lst (d0 :: ds)) (some (cu (pre ++ (o :: (t0 ++ (jn ts ++ [c])))) rest) :: r) := by
  have hb1 := big_r hb
  have hb2 := big_a hb1
  have hb3 := big_a hb2
  obtain ⟨r, q⟩ := bC_ok (k := k) (o := o) (es := [d0] ++ ds) hb3
  have e : pre ++ (o :: (t0 ++ (jn ts ++ [c]))) = pre ++ [o] ++ t0 ++ jn ts ++ [c] := by simp
  rw [e]
  refine mL_rt (r := r) ?_
  rw [bL_open hb]
  refine (sCons_nx (ρ1 := sl (pre ++ [o] ++ t0 ++ jn ts) (c :: rest) o c k ([d0] ++ ds)) ?_).trans q
  rw [bT_if hb1, if_neg ne]
  refine (sCons_nx (app_ok (h0 (pre ++ [o]) (jn ts ++ c :: rest) hb1 (nxt_jn ts _ (.inr rfl))) (by simp))).trans ?_
  refine (sCons_nx (loop_ok o k h (pre ++ [o] ++ t0) rest [d0] hc hb2 (by simp; omega))).trans rfl
theorem list_er {k o c : Nat} {m : En → Out D} {L : List (List Nat)} {ds : List D} {u rest : List Nat} {kk : Nat} (h : All2 m (nxt c) L ds) (hl : L.length < 900) (hu : Er m u kk rest) {pre : List Nat} (hb : big pre (o :: (ld L ++ (u ++ rest)))) (ne : ¬ (ld L ++ (u ++ rest)).take 1 = [c]) :
    ∃ pre' rest' r, mL k m (ar pre (o :: (ld L ++ (u ++ rest))) o c k) = .ex ⟨4, [.int ((pre.length + (1 + (ld L).length + kk) : Nat) : Int)]⟩ (some (cu pre' rest') :: r) := by
  have hb1 := big_r hb
  have key : ∃ pre' rest' r, bL k m (s0 pre (o :: (ld L ++ (u ++ rest))) o c k) = .ex ⟨4, [.int ((pre.length + (1 + (ld L).length + kk) : Nat) : Int)]⟩ (some (cu pre' rest') :: r) := by
    rw [bL_open hb]
    cases h with
    | nil =>
      have hb1' : big (pre ++ [o]) (u ++ rest) := hb1
      obtain ⟨pre', rest', q⟩ := hu (pre ++ [o]) hb1'
      refine ⟨pre', rest', [some (.im (.str (S [o]))), some (.im (.str (S [c]))), some (.fn k), some (.ol [])], ?_⟩
      have el : (pre ++ [o]).length + kk = pre.length + (1 + (ld []).length + kk) := by simp [ld]; omega
      rw [el] at q
      unfold sCons
      rw [bT_if hb1, if_neg ne]
      unfold sCons
      show ((sApp 4 (lcO 3 k 0 1 m oN) (sl (pre ++ [o]) (u ++ rest) o c k [])).sq _).sq _ = _
      rw [app_er q]
      rfl
    | @cons t d ts ds h0 h =>
      have el : ld (t :: ts) ++ (u ++ rest) = t ++ (jn ts ++ 32 :: (u ++ rest)) := by rw [ld_cons]; simp
      rw [el] at hb hb1 ne ⊢
      have hb2 := big_a hb1
      obtain ⟨pre', rest', es', q⟩ := loop_er o k h (pre ++ [o] ++ t) u rest [d] kk hu hb2 (by simp at hl ⊢; omega)
      have el2 : (pre ++ [o] ++ t).length + (jn ts).length + 1 + kk = pre.length + (1 + (ld (t :: ts)).length + kk) := by rw [ld_cons]; simp; omega
      rw [el2] at q
      refine ⟨pre', rest', [some (.im (.str (S [o]))), some (.im (.str (S [c]))), some (.fn k), some (.ol es')], ?_⟩
      unfold sCons
      rw [bT_if hb1, if_neg ne]
      have a := app_ok (k := k) (o := o) (c := c) (es := []) (h0 (pre ++ [o]) (jn ts ++ 32 :: (u ++ rest)) hb1 (nxt_jn ts _ (.inl rfl))) (by simp)
      rw [sCons_nx a]
      unfold sCons
      rw [show ([] : List D) ++ [d] = [d] from rfl, q]
      rfl
  obtain ⟨pre', rest', r, q⟩ := key
  obtain ⟨r', z⟩ := mL_ex q
  exact ⟨pre', rest', r', z⟩
/-- a thing is read, but then neither a space nor the closing sign stands there -/
theorem list_bad {k o c : Nat} {m : En → Out D} {L : List (List Nat)} {ds : List D} {u rest : List Nat} {d : D} (h : All2 m (nxt c) L ds) (hl : L.length < 900) (hu : ∀ pre, big pre (u ++ rest) → m [some (cu pre (u ++ rest))] = .ok d [some (cu (pre ++ u) rest)]) (n1 : ¬ rest.take 1 = [32]) (n2 : ¬ rest.take 1 = [c]) {pre : List Nat} (hb : big pre (o :: (ld L ++ (u ++ rest)))) (ne : ¬ (ld L ++ (u ++ rest)).take 1 = [c]) :
    ∃ pre' rest' r, mL k m (ar pre (o :: (ld L ++ (u ++ rest))) o c k) = .ex ⟨4, [.int ((pre.length + (1 + (ld L).length + u.length) : Nat) : Int)]⟩ (some (cu pre' rest') :: r) := by
  have hb1 := big_r hb
  have key : ∃ pre' rest' r, bL k m (s0 pre (o :: (ld L ++ (u ++ rest))) o c k) = .ex ⟨4, [.int ((pre.length + (1 + (ld L).length + u.length) : Nat) : Int)]⟩ (some (cu pre' rest') :: r) := by
    rw [bL_open hb]
    cases h with
    | nil =>
      have hb1' : big (pre ++ [o]) (u ++ rest) := hb1
      have a := app_ok (k := k) (o := o) (c := c) (es := []) (hu (pre ++ [o]) hb1') (by simp)
      obtain ⟨r, q⟩ := bC_er (k := k) (o := o) (es := [d]) (big_a hb1') n2
      have el : (pre ++ [o] ++ u).length = pre.length + (1 + (ld []).length + u.length) := by simp [ld]; omega
      rw [el] at q
      refine ⟨_, _, r, (sCons_nx (ρ1 := sl (pre ++ [o] ++ u) rest o c k [d]) ?_).trans q⟩
      rw [bT_if hb1, if_neg ne]
      refine (sCons_nx a).trans ?_
      exact (sCons_nx (loop_end o k (pre ++ [o] ++ u) rest [d] (big_a hb1') n1)).trans rfl
    | @cons t d' ts ds h0 h =>
      have el : ld (t :: ts) ++ (u ++ rest) = t ++ (jn ts ++ 32 :: (u ++ rest)) := by rw [ld_cons]; simp
      rw [el] at hb hb1 ne ⊢
      have hb2 := big_a hb1
      have hb3 := big_a hb2
      have a := app_ok (k := k) (o := o) (c := c) (es := []) (h0 (pre ++ [o]) (jn ts ++ 32 :: (u ++ rest)) hb1 (nxt_jn ts _ (.inl rfl))) (by simp)
      have z := loop_go o k h (1000000000 - ts.length) (pre ++ [o] ++ t) (32 :: (u ++ rest)) [d'] hb2 (.inl rfl) (by simp at hl ⊢; omega)
      rw [Nat.sub_add_cancel (by simp at hl; omega)] at z
      obtain ⟨n, e⟩ : ∃ n, 1000000000 - ts.length = n + 2 := ⟨1000000000 - ts.length - 2, by simp at hl; omega⟩
      have cl := cL_run (pre ++ [o] ++ t ++ jn ts) (32 :: (u ++ rest)) o c k ([d'] ++ ds) hb3
      have b := bLp_ok (o := o) (c := c) (k := k) (es := [d'] ++ ds) hb3 (hu (pre ++ [o] ++ t ++ jn ts ++ [32]) (big_r hb3)) (by have := h.len; simp at hl ⊢; omega)
      have cl2 := cL_run (pre ++ [o] ++ t ++ jn ts ++ [32] ++ u) rest o c k ([d'] ++ ds ++ [d]) (big_a (big_r hb3))
      have lp : whL cL (bLp k m) 1000000000 (sl (pre ++ [o] ++ t) (jn ts ++ 32 :: (u ++ rest)) o c k [d']) = .nx (sl (pre ++ [o] ++ t ++ jn ts ++ [32] ++ u) rest o c k ([d'] ++ ds ++ [d])) := by
        rw [z, e, whL, cl]
        simp only [List.take_succ_cons, List.take_zero, decide_true, Out.st]
        rw [b]
        simp only
        rw [whL, cl2]
        simp only [n1, decide_false, Out.st]
      obtain ⟨r, q⟩ := bC_er (k := k) (o := o) (es := [d'] ++ ds ++ [d]) (big_a (big_r hb3)) n2
      have el2 : (pre ++ [o] ++ t ++ jn ts ++ [32] ++ u).length = pre.length + (1 + (ld (t :: ts)).length + u.length) := by rw [ld_cons]; simp; omega
      rw [el2] at q
      refine ⟨_, _, r, (sCons_nx (ρ1 := sl (pre ++ [o] ++ t ++ jn ts ++ [32] ++ u) rest o c k ([d'] ++ ds ++ [d])) ?_).trans q⟩
      rw [bT_if hb1, if_neg ne]
      refine (sCons_nx a).trans ?_
      exact (sCons_nx lp).trans rfl
  obtain ⟨pre', rest', r, q⟩ := key
  obtain ⟨r', z⟩ := mL_ex q
  exact ⟨pre', rest', r', z⟩
end K98
namespace K98
open PySem PySem.Spec PyProof.Rows L2 Ce
/-! ### comprehensions -/
theorem lcL_map {fe : En → Out D} {v : Nat} {h : D → D} {ρ : En} (hv : ρ[v]? = some none) : ∀ (ds acc : List D), acc.length + ds.length < sizeLine → (∀ d ∈ ds, fe (ρ.set v (some (.im d))) = .ok (h d) (ρ.set v (some (.im d)))) → lcL (gN v) always fe [v] ds acc ρ = .ok (acc ++ ds.map h) ρ
  | [], acc, _, _ => by simp [lcL]
  | d :: ds, acc, hl, he => by
    rw [List.length_cons] at hl
    have z := he d List.mem_cons_self
    have w : wipeE (ρ.set v (some (.im d))) [v] = ρ := by
      show (ρ.set v (some (.im d))).set v none = ρ
      rw [List.set_set]
      obtain ⟨l, e⟩ := List.getElem?_eq_some_iff.mp hv
      conv => lhs; rw [← e]
      exact List.set_getElem_self l
    have r := lcL_map hv ds (acc ++ [h d]) (by rw [List.length_append, List.length_singleton]; omega) fun d m => he d (List.mem_cons_of_mem _ m)
    have hs : acc.length < sizeLine := by omega
    rw [lcL]
    simp only [gN, always, z, hs, decide_true, if_true, w]
    rw [show (acc ++ List.map h (d :: ds)) = acc ++ [h d] ++ List.map h ds by simp]
    exact r
theorem lc_map {f : En → Out (List D)} {fe : En → Out D} {v : Nat} {ds : List D} {h : D → D} {ρ : En} {o : Option O} (hf : f ρ = .ok ds ρ) (hv : ρ[v]? = some o) (ho : o = none ∨ ∃ d, o = some (.im d)) (hl : ds.length < sizeLine) (he : ∀ d ∈ ds, fe (ρ.set v (some (.im d))) = .ok (h d) (ρ.set v (some (.im d)))) : nLc f (gN v) always fe [v] ρ = .ok (ds.map h) ρ := by
  have lt : v < ρ.length := (List.getElem?_eq_some_iff.mp hv).1
  have self : ρ.set v o = ρ := by
    obtain ⟨l, e⟩ := List.getElem?_eq_some_iff.mp hv
    conv => lhs; rw [← e]
    exact List.set_getElem_self l
  have w : wipeE ρ [v] = ρ.set v none := rfl
  unfold nLc
  rw [hf]
  simp only [Out.bind]
  rw [w, lcL_map (ρ := ρ.set v none) (List.getElem?_set_self lt) ds [] (by rw [List.length_nil]; omega) (fun d m => by rw [List.set_set]; exact he d m)]
  simp only [List.nil_append]
  congr 1
  rcases ho with rfl | ⟨d, rfl⟩
  · simp only [restE, hv]
    exact self
  · simp only [restE, hv]
    rw [List.set_set]
    exact self
/-! ### joined texts -/
theorem TLjoin_eq (y : Str) (parts : List Str) : Txt.join y parts = Str.join y parts := PySem.StrLaws.glued_eq_join y parts
theorem join_S : ∀ ts : List (List Nat), Txt.join (S [32]) (ts.map S) = S (jb ts)
  | [] => rfl
  | [t] => by
    rw [TLjoin_eq]
    show S t = _
    simp [jb, jn]
  | t :: u :: r => by
    have ih := join_S (u :: r)
    rw [TLjoin_eq] at ih ⊢
    show S t ++ S [32] ++ Str.join (S [32]) ((u :: r).map S) = _
    rw [ih, S_add, S_add]
    simp [jb, jn]
theorem strsOf_S : ∀ ts : List (List Nat), strsOf (ts.map fun t => D.str (S t)) = some (ts.map S)
  | [] => rfl
  | t :: ts => by simp [strsOf, strsOf_S ts]
theorem kJoin_S (ts : List (List Nat)) (h : (ts.map List.length).sum + ts.length ≤ 100000) : kJoin (S [32]) (.lst (ts.map fun t => D.str (S t))) = some (.str (S (jb ts))) := by
  have e : ((ts.map S).map (·.length)).sum = (ts.map List.length).sum := by
    rw [List.map_map]
    rfl
  have z : ((ts.map S).map (·.length)).sum + (ts.map S).length * (S [32]).length ≤ 16777216 := by
    rw [e, List.length_map, S_len]
    simp
    omega
  unfold kJoin
  simp only [strsOf_S, Option.bind_some, z, decide_true, if_true]
  rw [join_S]
/-! ### the writer -/
theorem wt_tab : ((List.range 400).all fun n => decide (wt ((n : Int) - 199) = (PySem.Str.ofString (toString ((n : Int) - 199))).cps.toList)) = true := by decide +kernel
theorem wt_str {i : Int} (h : i.natAbs < 200) : PySem.Str.ofString (toString i) = S (wt i) := by
  have z := List.all_eq_true.mp wt_tab (i + 199).toNat (List.mem_range.mpr (by omega))
  have z := of_decide_eq_true z
  have e : (((i + 199).toNat : Nat) : Int) - 199 = i := by omega
  rw [e] at z
  rw [z]
  simp [S]
theorem log_ok {i : Int} (h : i.natAbs < 200) : i.natAbs.log2 < 1920 := by
  by_cases z : i.natAbs = 0
  · rw [z]; decide
  · have := (Nat.log2_lt (n := i.natAbs) (k := 8) z).mpr (by omega)
    omega
theorem kStr_run {i : Int} (h : i.natAbs < 200) : kStr [.int i] = some (.str (S (wt i))) := by
  have l := log_ok h
  unfold kStr
  simp only [l, decide_true, if_true]
  rw [wt_str h]
theorem add_S (a b : List Nat) (ρ : En) (h : a.length + b.length ≤ 100000) : tAddS (.str (S a)) (.str (S b)) ρ = .ok (.str (S (a ++ b))) ρ := by
  have z : (S a).length + (S b).length ≤ sizeLine := by rw [S_len, S_len, sizeLine_eq]; omega
  show opt (ss _ _ _) ρ = _
  unfold ss
  simp only [z, decide_true, if_true, S_add, opt]
theorem wt_len {i : Int} (h : i.natAbs < 200) : (wt i).length ≤ 4 := by
  unfold wt
  split
  · simp
  · split
    · obtain ⟨c, r, e, _, _, hl, _⟩ := dg_ok (n := i.toNat) (by omega) (by omega)
      rw [e, List.length_cons]
      omega
    · obtain ⟨c, r, e, _, _, hl, _⟩ := dg_ok (n := (-i).toNat) (by omega) (by omega)
      rw [List.length_cons, e, List.length_cons]
      omega
theorem wt_nat {n : Nat} (h0 : n ≠ 0) : wt (n : Int) = dg n := by
  unfold wt
  rw [if_neg (by omega), if_pos (by omega), Int.toNat_natCast]
theorem ft_len {x : Rat} (h : okq x) : (ft x).length ≤ 9 := by
  have a := wt_len h.1
  have b := wt_len (i := (x.den : Int)) (by rw [Int.natAbs_natCast]; exact h.2)
  rw [wt_nat x.den_nz] at b
  unfold ft
  split
  · rw [List.append_nil]; omega
  · rw [List.length_append, List.length_cons]; omega
theorem wf_run (x : Rat) (h : okq x) (ρ : En) : fnM 1 [] m_write_fraction [fr x] ρ = .ok (.str (S (ft x))) ρ := by
  have k1 := kStr_run h.1
  have k2 := kStr_run (i := (x.den : Int)) (by rw [Int.natAbs_natCast]; exact h.2)
  have l1 := wt_len h.1
  have l2 := wt_len (i := (x.den : Int)) (by rw [Int.natAbs_natCast]; exact h.2)
  generalize hσ : ([some (.im (fr x))] : En) = σ
  have r1 : fld ft_den (rd 0) σ = .ok (.int (x.den : Nat)) σ := by subst hσ; rfl
  have r2 : fld ft_num (rd 0) σ = .ok (.int x.num) σ := by subst hσ; rfl
  have q1 : cl1 (fun ds => opt (kStr ds)) (aC (fld ft_num (rd 0)) aN) σ = .ok (.str (S (wt x.num))) σ := by
    unfold cl1 aC
    rw [r2]
    simp only [Out.bind, aN, k1, opt]
  have q2 : cl1 (fun ds => opt (kStr ds)) (aC (fld ft_den (rd 0)) aN) σ = .ok (.str (S (wt (x.den : Nat)))) σ := by
    unfold cl1 aC
    rw [r1]
    simp only [Out.bind, aN, k2, opt]
  have t : tst (op2 sEq (fld ft_den (rd 0)) (cst (.int 1))) σ = .ok (decide ((x.den : Int) = 1)) σ := by
    unfold tst op2
    rw [r1]
    rfl
  have key : b_write_fraction σ = .rt (.str (S (ft x))) σ := by
    unfold b_write_fraction
    by_cases hd : x.den = 1
    · have hd' : (x.den : Int) = 1 := by omega
      refine sCons_rt ?_
      unfold sIf
      rw [t, decide_eq_true hd']
      simp only [Out.st]
      refine sCons_rt ?_
      unfold sRet
      rw [q1, ft, if_pos hd, List.append_nil]
      rfl
    · have hd' : ¬ (x.den : Int) = 1 := by omega
      refine (sCons_nx (ρ1 := σ) ?_).trans ?_
      · unfold sIf
        rw [t, decide_eq_false hd']
        rfl
      · refine sCons_rt ?_
        rw [s47]
        unfold sRet
        have o1 : op2 tAddS (cl1 (fun ds => opt (kStr ds)) (aC (fld ft_num (rd 0)) aN)) (cst (.str (S [47]))) σ = .ok (.str (S (wt x.num ++ [47]))) σ := by
          unfold op2
          rw [q1]
          simp only [Out.bind, cst]
          exact add_S _ _ _ (by simp; omega)
        have o2 : op2 tAddS (op2 tAddS (cl1 (fun ds => opt (kStr ds)) (aC (fld ft_num (rd 0)) aN)) (cst (.str (S [47])))) (cl1 (fun ds => opt (kStr ds)) (aC (fld ft_den (rd 0)) aN)) σ = .ok (.str (S (wt x.num ++ [47] ++ wt (x.den : Nat)))) σ := by
          rw [op2, o1]
          simp only [Out.bind]
          rw [q2]
          simp only
          exact add_S _ _ _ (by simp; omega)
        rw [o2, ft, if_neg hd, wt_nat x.den_nz]
        simp only [Out.st]
        congr 2
        simp
  unfold fnM onD
  simp only [List.length_singleton, List.length_nil, decide_true, if_true, List.append_nil, List.map]
  show (match mOf 1 [] b_write_fraction [some (.im (fr x))] with
    | .ok d _ => Out.ok d ρ
    | .ex x _ => .ex x ρ
    | .er => .er) = _
  unfold mOf
  show (match (match b_write_fraction [some (.im (fr x))] with
    | .nx ρ' => Out.ok D.non (argE [] [some (.im (fr x))] ρ')
    | .rt d ρ' => .ok d (argE [] [some (.im (fr x))] ρ')
    | .ex x' ρ' => .ex x' (argE [] [some (.im (fr x))] ρ')
    | _ => .er) with
    | .ok d _ => Out.ok d ρ
    | .ex x _ => .ex x ρ
    | .er => .er) = _
  rw [hσ, key]
end K98
namespace K98
open PySem PySem.Spec PyProof.Rows L2 Ce
theorem fn_rt {n m : Nat} {dd ds : List D} {fb : En → SOut} {d : D} {ρ' : En} (ρ : En) (hl : ds.length + dd.length = n) (h : fb (((ds ++ dd).map fun d => some (.im d)) ++ List.replicate (m - (ds ++ dd).length) none) = .rt d ρ') : fnM n dd (mOf m [] fb) ds ρ = .ok d ρ := by
  unfold fnM
  rw [if_pos (by simpa using hl)]
  unfold onD mOf
  rw [List.length_map, h]
theorem sEq_int (a b : Int) (ρ : En) : sEq (.int a) (.int b) ρ = .ok (.bl (decide (a = b))) ρ := rfl
theorem iGt_int (a b : Int) (ρ : En) : iGt (.int a) (.int b) ρ = .ok (.bl (decide (a > b))) ρ := rfl
theorem iSub_int (a b : Int) (ρ : En) : iSub (.int a) (.int b) ρ = .ok (.int (a - b)) ρ := rfl
theorem iAdd_int (a b : Int) (ρ : En) : iAdd (.int a) (.int b) ρ = .ok (.int (a + b)) ρ := rfl
/-! ### trimmed, content -/
def lastNz (nums : List Int) : Prop := nums = [] ∨ nums.getLast? ≠ some 0
theorem trim_run (nums : List Int) (hn : lastNz nums) (ρ : En) : fnM 1 [] m_trimmed [.lst (nums.map .int)] ρ = .ok (.lst (nums.map .int)) ρ := by
  generalize hσ : ([some (.im (.lst (nums.map .int))), some (.im (.int (nums.length : Nat)))] : En) = σ
  have a1 : op2 iGt (rd 1) (cst (.int 0)) σ = .ok (.bl (decide ((nums.length : Int) > 0))) σ := by subst hσ; rfl
  have t : (tAnd2 (tst (op2 iGt (rd 1) (cst (.int 0)))) (tst (op2 sEq (ixV 0 (op2 iSub (rd 1) (cst (.int 1)))) (cst (.int 0))))) σ = .ok false σ := by
    unfold tAnd2 tst
    rw [a1]
    by_cases h0 : nums = []
    · subst h0
      rfl
    · have hp : 0 < nums.length := List.length_pos_iff.mpr h0
      rw [decide_eq_true (show (nums.length : Int) > 0 by omega)]
      simp only [Out.bind]
      have a2 : op2 iSub (rd 1) (cst (.int 1)) σ = .ok (.int ((nums.length : Int) - 1)) σ := by subst hσ; rfl
      have v : vw 0 σ = .ok (nums.map .int) σ := by subst hσ; rfl
      have e1 : (nums.length : Int) - 1 = ((nums.length - 1 : Nat) : Int) := by omega
      have a3 : ixV 0 (op2 iSub (rd 1) (cst (.int 1))) σ = .ok (.int (nums[nums.length - 1]'(by omega))) σ := by
        unfold ixV
        rw [v]
        simp only [Out.bind]
        rw [a2]
        simp only
        rw [v]
        simp only
        rw [e1, Ce.atI_nat]
        rw [List.getElem?_map, List.getElem?_eq_getElem (by omega)]
        rfl
      have nz : nums[nums.length - 1]'(by omega) ≠ 0 := by
        rcases hn with z | z
        · exact absurd z h0
        · intro y
          apply z
          rw [List.getLast?_eq_getElem?, List.getElem?_eq_getElem (by omega), y]
      have a4 : op2 sEq (ixV 0 (op2 iSub (rd 1) (cst (.int 1)))) (cst (.int 0)) σ = .ok (.bl false) σ := by
        rw [op2, a3]
        simp only [Out.bind, cst, sEq_int, nz, decide_false]
      rw [a4]
  have r : (sRet (fz (nSlV 0 noP (isP (rd 1))))) σ = .rt (.lst (nums.map .int)) σ := by
    have v : vw 0 σ = .ok (nums.map .int) σ := by subst hσ; rfl
    have r1 : rd 1 σ = .ok (.int (nums.length : Nat)) σ := by subst hσ; rfl
    have c : Ce.cutD (nums.map D.int) none (some ((nums.length : Nat) : Int)) = nums.map D.int := by
      unfold Ce.cutD
      rw [HT.sIx_nat]
      have e : HT.sIx (nums.map D.int).length 0 none = 0 := rfl
      rw [e, List.drop_zero, Nat.sub_zero, List.take_of_length_le (by simp)]
    unfold sRet fz nSlV
    rw [v]
    simp only [Out.bind, noP, isP, r1, v, c, Out.st]
  refine fn_rt (m := 2) (ρ' := σ) ρ rfl ?_
  show b_trimmed [some (.im (.lst (nums.map .int))), none] = _
  unfold b_trimmed
  refine (sCons_nx (ρ1 := σ) ?_).trans ?_
  · subst hσ
    unfold sSet vLen
    show Out.st (Out.bind (Out.ok (nums.map D.int) _) _) _ = _
    simp only [Out.bind, Out.st, List.length_map]
    rfl
  · refine (sCons_nx (ρ1 := σ) ?_).trans (sCons_rt r)
    have e : (1000000000 : Nat) = 999999999 + 1 := rfl
    rw [e, whL, t]
    rfl
def gcds (nums : List Int) (a : Nat) : Nat := nums.foldl (fun a n => Nat.gcd a n.natAbs) a
theorem gcds_dvd : ∀ (nums : List Int) (a : Nat), gcds nums a ∣ a ∧ ∀ n ∈ nums, (gcds nums a : Int) ∣ n
  | [], a => ⟨Nat.dvd_refl a, by simp⟩
  | n :: nums, a => by
    obtain ⟨h1, h2⟩ := gcds_dvd nums (Nat.gcd a n.natAbs)
    have e : gcds (n :: nums) a = gcds nums (Nat.gcd a n.natAbs) := rfl
    rw [e]
    refine ⟨Nat.dvd_trans h1 (Nat.gcd_dvd_left _ _), fun x m => ?_⟩
    rcases List.mem_cons.mp m with rfl | m
    · exact Int.ofNat_dvd_left.mpr (Nat.dvd_trans h1 (Nat.gcd_dvd_right _ _))
    · exact h2 x m
theorem cont_loop (l : D) : ∀ (nums : List Int) (a : Nat) (x2 : Option O), ∃ y2, forL (gN 2) (sCons (sSet 1 (cl1 (fun ds => opt (k2 (fun i j => .int ((Nat.gcd i.natAbs j.natAbs : Nat) : Int)) ds)) (aC (rd 1) (aC (rd 2) aN)))) sNil) (nums.map .int) [some (.im l), some (.im (.int a)), x2] = .nx [some (.im l), some (.im (.int (gcds nums a : Nat))), y2]
  | [], a, x2 => ⟨x2, rfl⟩
  | n :: nums, a, x2 => by
    obtain ⟨y2, ih⟩ := cont_loop l nums (Nat.gcd a n.natAbs) (some (.im (.int n)))
    refine ⟨y2, ?_⟩
    rw [List.map_cons, forL]
    have z : (sCons (sSet 1 (cl1 (fun ds => opt (k2 (fun i j => .int ((Nat.gcd i.natAbs j.natAbs : Nat) : Int)) ds)) (aC (rd 1) (aC (rd 2) aN)))) sNil) [some (.im l), some (.im (.int a)), some (.im (.int n))] = .nx [some (.im l), some (.im (.int (Nat.gcd a n.natAbs : Nat))), some (.im (.int n))] := by
      simp [sCons, sSet, cl1, aC, aN, rd, k2, opt, Out.bind, Out.st, SOut.sq, sNil]
    simp only [gN, List.set_cons_succ, List.set_cons_zero]
    rw [z]
    exact ih
theorem cont_run (nums : List Int) (ρ : En) : fnM 1 [] m_content [.lst (nums.map .int)] ρ = .ok (.int (gcds nums 0 : Nat)) ρ := by
  obtain ⟨y2, z⟩ := cont_loop (.lst (nums.map .int)) nums 0 none
  refine fn_rt (m := 3) (ρ' := [some (.im (.lst (nums.map .int))), some (.im (.int (gcds nums 0 : Nat))), y2]) ρ rfl ?_
  show b_content [some (.im (.lst (nums.map .int))), none, none] = _
  unfold b_content
  refine (sCons_nx (ρ1 := [some (.im (.lst (nums.map .int))), some (.im (.int 0)), none]) rfl).trans ?_
  refine (sCons_nx (ρ1 := [some (.im (.lst (nums.map .int))), some (.im (.int (gcds nums 0 : Nat))), y2]) ?_).trans rfl
  unfold sFor
  show Out.st (Out.ok (nums.map D.int) [some (.im (.lst (nums.map .int))), some (.im (.int 0)), none]) _ = _
  exact z
/-! ### Poly -/
theorem poly_init (nums : List Int) (L : Nat) (hL : 0 < L) (hb : L ≤ 60) (hn : lastNz nums) (hl : nums.length ≤ 100) :
    ∃ g : Nat, 0 < g ∧ (∀ n ∈ nums, (g : Int) ∣ n) ∧ (g : Int) ∣ (L : Int) ∧ ∀ ρ, mkM 1 2 3 [] m_PolyD_initD [.lst (nums.map .int), .int L] ρ = .ok (.ins 1 [.tup ((nums.map fun n => n.fdiv g).map .int), .int ((L : Int).fdiv g)]) ρ := by
  obtain ⟨d1, d2⟩ := gcds_dvd nums 0
  generalize hc : gcds nums 0 = c at d1 d2
  have hg0 : 0 < Nat.gcd c L := Nat.gcd_pos_of_pos_right _ hL
  have hgL : Nat.gcd c L ∣ L := Nat.gcd_dvd_right _ _
  have hgc : Nat.gcd c L ∣ c := Nat.gcd_dvd_left _ _
  have hgb : Nat.gcd c L ≤ 60 := Nat.le_trans (Nat.le_of_dvd hL hgL) hb
  generalize hg : Nat.gcd c L = g at hg0 hgL hgc hgb
  refine ⟨g, hg0, fun n m => Int.dvd_trans (Int.natCast_dvd_natCast.mpr hgc) (d2 n m), Int.natCast_dvd_natCast.mpr hgL, fun ρ => ?_⟩
  have dg : divOk (g : Int) = true := divOk_nb (b := 6) (by omega) (by unfold nb; omega) (by omega)
  have sz : 1000 < sizeLine := by rw [sizeLine_eq]; omega
  have L0 : ¬ (L : Int) = 0 := by omega
  have L1 : ¬ (L : Int) < 0 := by omega
  have key : b_PolyD_initD [some (.oi 1 []), some (.im (.lst (nums.map .int))), some (.im (.int L)), none, none, none] = .nx [some (.oi 1 [.tup ((nums.map fun n => n.fdiv g).map .int), .int ((L : Int).fdiv g)]), some (.im (.lst (nums.map .int))), some (.im (.int L)), some (.im (.lst (nums.map .int))), some (.im (.int g)), none] := by
    unfold b_PolyD_initD
    refine (sCons_nx (ρ1 := [some (.oi 1 []), some (.im (.lst (nums.map .int))), some (.im (.int L)), none, none, none]) ?_).trans ?_
    · have t : tst (op2 sEq (rd 2) (cst (.int 0))) [some (.oi 1 []), some (.im (.lst (nums.map .int))), some (.im (.int L)), none, none, none] = .ok false [some (.oi 1 []), some (.im (.lst (nums.map .int))), some (.im (.int L)), none, none, none] := by
        show Out.ok (decide ((L : Int) = 0)) _ = _
        rw [decide_eq_false L0]
      unfold sIf
      rw [t]
      rfl
    refine (sCons_nx (ρ1 := [some (.oi 1 []), some (.im (.lst (nums.map .int))), some (.im (.int L)), some (.im (.lst (nums.map .int))), none, none]) ?_).trans ?_
    · unfold sSet cl1
      show Out.st (fnM 1 [] m_trimmed [.lst (nums.map .int)] _) _ = _
      rw [trim_run nums hn]
      rfl
    refine (sCons_nx (ρ1 := [some (.oi 1 []), some (.im (.lst (nums.map .int))), some (.im (.int L)), some (.im (.lst (nums.map .int))), some (.im (.int g)), none]) ?_).trans ?_
    · have cr := cont_run nums
      rw [hc] at cr
      have a : aC (cl1 (fnM 1 [] m_content) (aC (rd 3) aN)) (aC (rd 2) aN) [some (.oi 1 []), some (.im (.lst (nums.map .int))), some (.im (.int L)), some (.im (.lst (nums.map .int))), none, none] = .ok [.int c, .int L] [some (.oi 1 []), some (.im (.lst (nums.map .int))), some (.im (.int L)), some (.im (.lst (nums.map .int))), none, none] := by
        rw [aC, cl1]
        show Out.bind (fnM 1 [] m_content [.lst (nums.map .int)] _) _ = _
        rw [cr]
        rfl
      unfold sSet
      rw [cl1, a]
      show Out.st (Out.ok (D.int ((Nat.gcd (c : Int).natAbs (L : Int).natAbs : Nat) : Int)) _) _ = _
      rw [Int.natAbs_natCast, Int.natAbs_natCast, hg]
      rfl
    refine (sCons_nx (ρ1 := [some (.oi 1 []), some (.im (.lst (nums.map .int))), some (.im (.int L)), some (.im (.lst (nums.map .int))), some (.im (.int g)), none]) ?_).trans ?_
    · have t : tst (op2 iLt (rd 2) (cst (.int 0))) [some (.oi 1 []), some (.im (.lst (nums.map .int))), some (.im (.int L)), some (.im (.lst (nums.map .int))), some (.im (.int g)), none] = .ok false [some (.oi 1 []), some (.im (.lst (nums.map .int))), some (.im (.int L)), some (.im (.lst (nums.map .int))), some (.im (.int g)), none] := by
        show Out.ok (decide ((L : Int) < 0)) _ = _
        rw [decide_eq_false L1]
      unfold sIf
      rw [t]
      rfl
    refine (sCons_nx (ρ1 := [some (.oi 1 [.tup ((nums.map fun n => n.fdiv g).map .int)]), some (.im (.lst (nums.map .int))), some (.im (.int L)), some (.im (.lst (nums.map .int))), some (.im (.int g)), none]) ?_).trans ?_
    · have lc := lc_map (f := itA (rd 3)) (fe := op2 iDiv (rd 5) (rd 4)) (v := 5) (ds := nums.map D.int) (h := fun d => match d with | D.int n => D.int (n.fdiv g) | d => d) (ρ := [some (.oi 1 []), some (.im (.lst (nums.map .int))), some (.im (.int L)), some (.im (.lst (nums.map .int))), some (.im (.int g)), none]) (o := none) rfl rfl (.inl rfl) (by rw [List.length_map]; omega) (by
        intro d hd
        obtain ⟨n, _, rfl⟩ := List.mem_map.mp hd
        simp [op2, rd, iDiv, ii, dg, opt, Out.bind])
      have em : (nums.map D.int).map (fun d => match d with | D.int n => D.int (n.fdiv g) | d => d) = (nums.map fun n => n.fdiv g).map D.int := by
        rw [List.map_map, List.map_map]
        rfl
      rw [em] at lc
      unfold sFldS cl1 aC fz
      rw [lc]
      simp only [Out.bind, aN, kTup, opt, Out.st, List.getElem?_cons_zero, ft_coefs, putD, List.length_nil, Nat.lt_irrefl, decide_false, if_false, decide_true, if_true, List.nil_append, List.set_cons_zero]
      rfl
    refine (sCons_nx (ρ1 := [some (.oi 1 [.tup ((nums.map fun n => n.fdiv g).map .int), .int ((L : Int).fdiv g)]), some (.im (.lst (nums.map .int))), some (.im (.int L)), some (.im (.lst (nums.map .int))), some (.im (.int g)), none]) ?_).trans rfl
    simp [sFldS, op2, rd, iDiv, ii, dg, opt, Out.bind, Out.st, ft_den, putD]
  unfold mkM onMk
  simp only [List.length_cons, List.length_nil, decide_true, if_true, List.append_nil, List.map]
  show (match mOf 6 [0] b_PolyD_initD [some (.oi 1 []), some (.im (.lst (nums.map .int))), some (.im (.int L))] with
    | .ok .non (some (.oi c' fs) :: _) => if decide (c' = 1 ∧ fs.length = 2) then Out.ok (D.ins 1 fs) ρ else .er
    | .ex x _ => .ex x ρ
    | _ => .er) = _
  unfold mOf
  show (match (match b_PolyD_initD [some (.oi 1 []), some (.im (.lst (nums.map .int))), some (.im (.int L)), none, none, none] with
    | .nx ρ' => Out.ok D.non (argE [0] [some (.oi 1 []), some (.im (.lst (nums.map .int))), some (.im (.int L))] ρ')
    | .rt d ρ' => .ok d (argE [0] [some (.oi 1 []), some (.im (.lst (nums.map .int))), some (.im (.int L))] ρ')
    | .ex x ρ' => .ex x (argE [0] [some (.oi 1 []), some (.im (.lst (nums.map .int))), some (.im (.int L))] ρ')
    | _ => .er) with
    | .ok .non (some (.oi c' fs) :: _) => if decide (c' = 1 ∧ fs.length = 2) then Out.ok (D.ins 1 fs) ρ else .er
    | .ex x _ => .ex x ρ
    | _ => .er) = _
  rw [key]
  rfl
end K98
namespace K98
open PySem PySem.Spec PyProof.Rows L2 Ce
def okx (x : Rat) : Prop := x.num.natAbs < 200 ∧ x.den ≤ 6
theorem okx.q {x : Rat} (h : okx x) : okq x := ⟨h.1, by have := h.2; omega⟩
theorem d60 {d : Nat} (h0 : d ≠ 0) (h : d ≤ 6) : d ∣ 60 := by
  have : d = 1 ∨ d = 2 ∨ d = 3 ∨ d = 4 ∨ d = 5 ∨ d = 6 := by omega
  rcases this with rfl | rfl | rfl | rfl | rfl | rfl <;> decide
def lcms (xs : List Rat) (a : Nat) : Nat := xs.foldl (fun a x => Nat.lcm a x.den) a
theorem lcms_ok : ∀ (xs : List Rat) (a : Nat), a ∣ 60 → (∀ x ∈ xs, okx x) → lcms xs a ∣ 60 ∧ a ∣ lcms xs a ∧ ∀ x ∈ xs, x.den ∣ lcms xs a
  | [], a, ha, _ => ⟨ha, Nat.dvd_refl a, by simp⟩
  | x :: xs, a, ha, hx => by
    have h60 := d60 x.den_nz (hx x List.mem_cons_self).2
    obtain ⟨h1, h2, h3⟩ := lcms_ok xs (Nat.lcm a x.den) (Nat.lcm_dvd ha h60) fun y m => hx y (List.mem_cons_of_mem _ m)
    have e : lcms (x :: xs) a = lcms xs (Nat.lcm a x.den) := rfl
    rw [e]
    refine ⟨h1, Nat.dvd_trans (Nat.dvd_lcm_left _ _) h2, fun y m => ?_⟩
    rcases List.mem_cons.mp m with rfl | m
    · exact Nat.dvd_trans (Nat.dvd_lcm_right _ _) h2
    · exact h3 y m
def bFr : En → SOut := (sCons (sSet 1 (cl1 (fun ds => opt (kLcm ds)) (aC (rd 1) (aC (fld ft_den (rd 2)) aN)))) sNil)
theorem lcm_loop (l : D) : ∀ (xs : List Rat) (a : Nat) (x2 : Option O), (x2 = none ∨ ∃ d, x2 = some (.im d)) → a ∣ 60 → (∀ x ∈ xs, okx x) → ∃ y2, (y2 = none ∨ ∃ d, y2 = some (.im d)) ∧ forL (gN 2) bFr (xs.map fr) [some (.im l), some (.im (.int a)), x2] = .nx [some (.im l), some (.im (.int (lcms xs a : Nat))), y2]
  | [], a, x2, h2, _, _ => ⟨x2, h2, rfl⟩
  | x :: xs, a, x2, h2, ha, hx => by
    have h60 := d60 x.den_nz (hx x List.mem_cons_self).2
    obtain ⟨y2, hy, ih⟩ := lcm_loop l xs (Nat.lcm a x.den) (some (.im (fr x))) (.inr ⟨_, rfl⟩) (Nat.lcm_dvd ha h60) fun y m => hx y (List.mem_cons_of_mem _ m)
    refine ⟨y2, hy, ?_⟩
    have hal : a ≤ 60 := Nat.le_of_dvd (by omega) ha
    have hd := (hx x List.mem_cons_self).2
    have b1 : decide ((a : Int).natAbs < 2 ^ 64) = true := by rw [Int.natAbs_natCast, decide_eq_true_eq]; omega
    have b2 : decide ((x.den : Int).natAbs < 2 ^ 64) = true := by rw [Int.natAbs_natCast, decide_eq_true_eq]; omega
    have kl : kLcm [.int a, .int (x.den : Nat)] = some (.int (Nat.lcm a x.den : Nat)) := by
      show (if (decide ((a : Int).natAbs < 2 ^ 64) && decide ((x.den : Int).natAbs < 2 ^ 64)) = true then some (D.int ((Nat.lcm (a : Int).natAbs (x.den : Int).natAbs : Nat) : Int)) else none) = _
      rw [if_pos (by rw [b1, b2]; rfl)]
      rfl
    have z : bFr [some (.im l), some (.im (.int a)), some (.im (fr x))] = .nx [some (.im l), some (.im (.int (Nat.lcm a x.den : Nat))), some (.im (fr x))] := by
      unfold bFr
      refine (sCons_nx (ρ1 := [some (.im l), some (.im (.int (Nat.lcm a x.den : Nat))), some (.im (fr x))]) ?_).trans rfl
      unfold sSet cl1
      show Out.st (opt (kLcm [.int a, .int (x.den : Nat)]) _) _ = _
      rw [kl]
      rfl
    rw [List.map_cons, forL]
    simp only [gN, List.set_cons_succ, List.set_cons_zero]
    rw [z]
    exact ih
def PolyOf (xs : List Rat) (d : D) : Prop := ∃ (cs : List Int) (den : Int), d = .ins 1 [.tup (cs.map .int), .int den] ∧ cs.length = xs.length ∧ den ≠ 0 ∧ nb den 6 ∧ ∀ (i : Nat) (c : Int) (x : Rat), cs[i]? = some c → xs[i]? = some x → Rat.divInt c den = x
theorem divInt_fdiv {n L g : Int} (h0 : g ≠ 0) (h1 : g ∣ n) (h2 : g ∣ L) : Rat.divInt (n.fdiv g) (L.fdiv g) = Rat.divInt n L := by
  obtain ⟨c, rfl⟩ := h1
  obtain ⟨d, rfl⟩ := h2
  have e1 : (g * c).fdiv g = c := by rw [Int.mul_comm]; exact Int.mul_fdiv_cancel c h0
  have e2 : (g * d).fdiv g = d := by rw [Int.mul_comm]; exact Int.mul_fdiv_cancel d h0
  rw [e1, e2, Rat.divInt_mul_left h0]
theorem divInt_over (x : Rat) (L : Nat) (h0 : L ≠ 0) (h : x.den ∣ L) : Rat.divInt (x.num * (L : Int).fdiv (x.den : Int)) L = x := by
  obtain ⟨k, rfl⟩ := h
  have hk : k ≠ 0 := fun z => h0 (by rw [z, Nat.mul_zero])
  have e : ((x.den * k : Nat) : Int).fdiv (x.den : Int) = k := by
    rw [Int.natCast_mul, Int.mul_comm]
    exact Int.mul_fdiv_cancel _ (by have := x.den_nz; omega)
  rw [e, Int.natCast_mul, Rat.divInt_mul_right (by omega : (k : Int) ≠ 0)]
  exact Rat.num_divInt_den x
theorem from_run (xs : List Rat) (hx : ∀ x ∈ xs, okx x) (hl : xs.length ≤ 100) (hn : xs = [] ∨ xs.getLast? ≠ some 0) : ∃ d, PolyOf xs d ∧ ∀ ρ, fnM 1 [] m_from_fractions [.lst (xs.map fr)] ρ = .ok d ρ := by
  obtain ⟨h60, _, hden⟩ := lcms_ok xs 1 (by decide) hx
  obtain ⟨y2, hy, lp⟩ := lcm_loop (.lst (xs.map fr)) xs 1 none (.inl rfl) (by decide) hx
  have hL0 : 0 < lcms xs 1 := Nat.pos_of_dvd_of_pos h60 (by omega)
  have hLb : lcms xs 1 ≤ 60 := Nat.le_of_dvd (by omega) h60
  generalize lcms xs 1 = L at *
  have lnz : lastNz (xs.map fun x => x.num * (L : Int).fdiv (x.den : Int)) := by
    rcases hn with rfl | hn
    · exact .inl rfl
    · refine .inr ?_
      rw [List.getLast?_map]
      intro z
      rw [Option.map_eq_some_iff] at z
      obtain ⟨x, e1, e2⟩ := z
      have hm : x ∈ xs := List.mem_of_getLast? e1
      have q := divInt_over x L (by omega) (hden x hm)
      rw [e2, Rat.zero_divInt] at q
      exact hn (by rw [e1, ← q])
  obtain ⟨g, g0, g1, g2, pi⟩ := poly_init (xs.map fun x => x.num * (L : Int).fdiv (x.den : Int)) L hL0 hLb lnz (by rw [List.length_map]; exact hl)
  refine ⟨_, ⟨(xs.map fun x => x.num * (L : Int).fdiv (x.den : Int)).map (fun n => n.fdiv g), (L : Int).fdiv g, rfl, by simp, ?_, ?_, ?_⟩, ?_⟩
  · obtain ⟨k, e⟩ := g2
    rw [e, Int.mul_comm, Int.mul_fdiv_cancel _ (by omega)]
    rintro rfl
    simp at e
    omega
  · obtain ⟨k, e⟩ := g2
    have e2 : (L : Int).fdiv g = k := by rw [e, Int.mul_comm, Int.mul_fdiv_cancel _ (by omega)]
    rw [e2]
    unfold nb
    have : k.natAbs ≤ (L : Int).natAbs := by
      rw [e, Int.natAbs_mul]
      exact Nat.le_mul_of_pos_left _ (by omega)
    rw [Int.natAbs_natCast] at this
    omega
  · intro i c x ec ex
    rw [List.getElem?_map, List.getElem?_map, ex] at ec
    simp at ec
    subst ec
    have hm : x ∈ xs := List.mem_of_getElem? ex
    rw [divInt_fdiv (by omega) (g1 _ (List.mem_map.mpr ⟨x, hm, rfl⟩)) g2]
    exact divInt_over x L (by omega) (hden x hm)
  · intro ρ
    have sz : 1000 < sizeLine := by rw [sizeLine_eq]; omega
    generalize hσ : ([some (.im (.lst (xs.map fr))), some (.im (.int L)), y2] : En) = σ at lp
    have lc := lc_map (f := itA (rd 0)) (fe := op2 iMul (fld ft_num (rd 2)) (op2 iDiv (rd 1) (fld ft_den (rd 2)))) (v := 2) (ds := xs.map fr) (h := fun d => match d with | D.ins _ [D.int n, D.int e] => D.int (n * (L : Int).fdiv e) | d => d) (ρ := σ) (o := y2) (by subst hσ; rfl) (by subst hσ; rfl) hy (by rw [List.length_map]; omega) (by
      intro d hd
      obtain ⟨x, hm, rfl⟩ := List.mem_map.mp hd
      have hx' := hx x hm
      have dd : divOk (x.den : Int) = true := divOk_nb (b := 6) (by have := x.den_nz; omega) (by unfold nb; have := hx'.2; rw [Int.natAbs_natCast]; omega) (by omega)
      obtain ⟨k, e⟩ := hden x hm
      have e2 : (L : Int).fdiv (x.den : Int) = k := by rw [e, Int.natCast_mul, Int.mul_comm]; exact Int.mul_fdiv_cancel _ (by have := x.den_nz; omega)
      have kb : k ≤ 60 := Nat.le_trans (Nat.le_mul_of_pos_left k (Nat.pos_of_ne_zero x.den_nz)) (by rw [← e]; exact hLb)
      have mo : mulOk x.num ((L : Int).fdiv (x.den : Int)) = true := mulOk_nb (a := 8) (b := 6) (by unfold nb; have := hx'.1; omega) (by rw [e2]; unfold nb; rw [Int.natAbs_natCast]; omega) (by omega)
      subst hσ
      simp [op2, fld, rd, fr, ft_num, ft_den, iMul, iDiv, ii, opt, Out.bind, dd, mo])
    have em : (xs.map fr).map (fun d => match d with | D.ins _ [D.int n, D.int e] => D.int (n * (L : Int).fdiv e) | d => d) = (xs.map fun x => x.num * (L : Int).fdiv (x.den : Int)).map D.int := by
      rw [List.map_map, List.map_map]
      rfl
    rw [em] at lc
    refine fn_rt (m := 3) (ρ' := σ) ρ rfl ?_
    show b_from_fractions [some (.im (.lst (xs.map fr))), none, none] = _
    unfold b_from_fractions
    refine (sCons_nx (ρ1 := [some (.im (.lst (xs.map fr))), some (.im (.int 1)), none]) rfl).trans ?_
    refine (sCons_nx (ρ1 := σ) ?_).trans ?_
    · unfold sFor
      show Out.st (Out.ok (xs.map fr) [some (.im (.lst (xs.map fr))), some (.im (.int 1)), none]) _ = _
      exact lp
    · refine sCons_rt ?_
      have r1 : rd 1 σ = .ok (.int L) σ := by subst hσ; rfl
      have fzz : fz (nLc (itA (rd 0)) (gN 2) always (op2 iMul (fld ft_num (rd 2)) (op2 iDiv (rd 1) (fld ft_den (rd 2)))) [2]) σ = .ok (.lst ((xs.map fun x => x.num * (L : Int).fdiv (x.den : Int)).map D.int)) σ := by
        rw [fz, lc]
        rfl
      have ac : aC (fz (nLc (itA (rd 0)) (gN 2) always (op2 iMul (fld ft_num (rd 2)) (op2 iDiv (rd 1) (fld ft_den (rd 2)))) [2])) (aC (rd 1) aN) σ = .ok [.lst ((xs.map fun x => x.num * (L : Int).fdiv (x.den : Int)).map D.int), .int L] σ := by
        rw [aC, fzz]
        simp only [Out.bind, aC]
        rw [r1]
        rfl
      unfold sRet
      rw [cl1, ac]
      simp only [Out.bind]
      rw [pi]
      rfl
end K98
namespace K98
open PySem PySem.Spec PyProof.Rows L2 Ce
theorem inR_nat (n : Nat) (h : n < 1000) : Ce.inR (n : Int) = true := by
  unfold Ce.inR
  have e : (2 : Int) ^ 62 = 4611686018427387904 := by decide
  rw [e]
  simp only [Bool.and_eq_true, decide_eq_true_eq]
  omega
theorem rng_at {i : Int} {m j : Nat} {d : D} (h : (rngD i 1 m)[j]? = some d) : j < m ∧ d = .int (i + j) := by
  have l : j < m := by
    have z := (List.getElem?_eq_some_iff.mp h).1
    rwa [rngD_len] at z
  rw [rngD_get l] at h
  simp at h
  exact ⟨l, h.symm⟩
theorem iLe_int (a b : Int) (ρ : En) : iLe (.int a) (.int b) ρ = .ok (.bl (decide (a ≤ b))) ρ := rfl
theorem iLt_int (a b : Int) (ρ : En) : iLt (.int a) (.int b) ρ = .ok (.bl (decide (a < b))) ρ := rfl
theorem itR1_ok {g : En → Out (List D)} {ρ ρ1 : En} {j : Int} (h : g ρ = .ok [.int j] ρ1) (hj : Ce.inR j = true) : itR1 g ρ = .ok (rngD 0 1 j.toNat) ρ1 := by
  unfold itR1
  rw [h]
  simp only [Out.bind, hj, if_true]
/-! ### the writer of polynomials -/
theorem coef_run {xs : List Rat} {d : D} (h : PolyOf xs d) (i : Nat) (x : Rat) (hi : xs[i]? = some x) (ρ : En) : fnM 2 [] m_Poly_coefficient [d, .int i] ρ = .ok (fr x) ρ := by
  obtain ⟨cs, den, rfl, hl, h0, hb, hd⟩ := h
  have il : i < cs.length := by rw [hl]; exact (List.getElem?_eq_some_iff.mp hi).1
  have q := hd i cs[i] x (List.getElem?_eq_getElem il) hi
  have mk := mk_run cs[i] den h0 hb (by omega)
  rw [q] at mk
  generalize hσ : ([some (.im (.ins 1 [.tup (cs.map .int), .int den])), some (.im (.int i))] : En) = σ
  have f1 : fld ft_coefs (rd 0) σ = .ok (.tup (cs.map .int)) σ := by subst hσ; rfl
  have f2 : fld ft_den (rd 0) σ = .ok (.int den) σ := by subst hσ; rfl
  have r1 : rd 1 σ = .ok (.int i) σ := by subst hσ; rfl
  have ln : cl1 (fun ds => opt (kLen ds)) (aC (fld ft_coefs (rd 0)) aN) σ = .ok (.int (cs.length : Nat)) σ := by
    unfold cl1 aC
    rw [f1]
    simp only [Out.bind, aN, kLen, opt, List.length_map]
  have ii1 : itm (.tup (cs.map D.int)) (.int i) = some (.int cs[i]) := by
    show L2.atI (cs.map D.int) (i : Int) = _
    rw [Ce.atI_nat]
    simp [il]
  have t : tst (chn iLe iLt (cst (.int 0)) (rd 1) (cl1 (fun ds => opt (kLen ds)) (aC (fld ft_coefs (rd 0)) aN))) σ = .ok true σ := by
    have a1 : (0 : Int) ≤ (i : Int) := by omega
    have a2 : (i : Int) < (cs.length : Int) := by omega
    unfold tst chn
    simp only [cst, Out.bind, r1, iLe_int, iLt_int, a1, decide_true, ln, a2]
  have key : b_Poly_coefficient σ = .rt (fr x) σ := by
    unfold b_Poly_coefficient
    refine sCons_rt ?_
    unfold sIf
    rw [t]
    simp only [Out.st]
    refine sCons_rt ?_
    have ac : aC (ix (fld ft_coefs (rd 0)) (rd 1)) (aC (fld ft_den (rd 0)) aN) σ = .ok [.int cs[i], .int den] σ := by
      rw [aC, ix, f1]
      simp only [Out.bind]
      rw [r1]
      simp only [ii1, opt]
      rw [aC, f2]
      rfl
    unfold sRet
    rw [cl1, ac]
    simp only [Out.bind]
    rw [mk]
    rfl
  subst hσ
  exact fn_rt (m := 2) ρ rfl key
/-- the text of a polynomial -/
def pt (xs : List Rat) : List Nat := 91 :: (jb (xs.map ft) ++ [93])
theorem jn_len : ∀ (ts : List (List Nat)), (jn ts).length = (ts.map List.length).sum + ts.length
  | [] => rfl
  | t :: ts => by
    simp [jn, jn_len ts]
    omega
theorem jb_len (ts : List (List Nat)) : (jb ts).length ≤ (ts.map List.length).sum + ts.length := by
  cases ts with
  | nil => simp [jb]
  | cons t ts =>
    simp [jb, jn_len]
    omega
theorem ft_sum : ∀ (xs : List Rat), (∀ x ∈ xs, okq x) → ((xs.map ft).map List.length).sum ≤ 9 * xs.length
  | [], _ => by simp
  | x :: xs, h => by
    have a := ft_len (h x List.mem_cons_self)
    have b := ft_sum xs fun y m => h y (List.mem_cons_of_mem _ m)
    simp at b ⊢
    omega
theorem pt_len (xs : List Rat) (h : ∀ x ∈ xs, okq x) : (pt xs).length ≤ 10 * xs.length + 2 := by
  have a := ft_sum xs h
  have b := jb_len (xs.map ft)
  rw [List.length_map] at b
  simp [pt]
  omega
theorem wp_run {xs : List Rat} {d : D} (h : PolyOf xs d) (hq : ∀ x ∈ xs, okq x) (hl : xs.length ≤ 100) (ρ : En) : fnM 1 [] m_write_poly [d] ρ = .ok (.str (S (pt xs))) ρ := by
  have h' := h
  obtain ⟨cs, den, e, hcl, h0, hb, hd⟩ := h'
  generalize hσ : ([some (.im d), none] : En) = σ
  have r0 : rd 0 σ = .ok d σ := by subst hσ; rfl
  have f1 : fld ft_coefs (rd 0) σ = .ok (.tup (cs.map .int)) σ := by subst hσ; subst e; rfl
  have ln : cl1 (fun ds => opt (kLen ds)) (aC (fld ft_coefs (rd 0)) aN) σ = .ok (.int (xs.length : Nat)) σ := by
    unfold cl1 aC
    rw [f1]
    simp only [Out.bind, aN, kLen, opt, List.length_map, hcl]
  have it : itR1 (aC (cl1 (fun ds => opt (kLen ds)) (aC (fld ft_coefs (rd 0)) aN)) aN) σ = .ok (rngD 0 1 xs.length) σ := by
    have z := itR1_ok (g := aC (cl1 (fun ds => opt (kLen ds)) (aC (fld ft_coefs (rd 0)) aN)) aN) (ρ := σ) (ρ1 := σ) (j := (xs.length : Int)) (by rw [aC, ln]; rfl) (inR_nat _ (by omega))
    rw [Int.toNat_natCast] at z
    exact z
  have sz : 1000 < sizeLine := by rw [sizeLine_eq]; omega
  have lc := lc_map (fe := cl1 (fnM 1 [] m_write_fraction) (aC (Ce.mt 1 (fnM 2 [] m_Poly_coefficient) (rd 0) (aC (rd 1) aN)) aN)) (v := 1) (h := fun d => match d with | D.int i => D.str (S ((xs[i.toNat]?.map ft).getD [])) | d => d) (o := none) it (by subst hσ; rfl) (.inl rfl) (by rw [rngD_len]; omega) (by
    intro d' hd'
    obtain ⟨j, ej⟩ := List.mem_iff_getElem?.mp hd'
    obtain ⟨hj, rfl⟩ := rng_at ej
    have hx : xs[j]? = some xs[j] := List.getElem?_eq_getElem hj
    have c := coef_run h j xs[j] hx
    have w := wf_run xs[j] (hq _ (List.getElem_mem hj))
    rw [Int.zero_add]
    have eh : (match D.int (j : Nat) with | D.int i => D.str (S ((xs[i.toNat]?.map ft).getD [])) | d => d) = D.str (S (ft xs[j])) := by
      show D.str (S ((xs[((j : Nat) : Int).toNat]?.map ft).getD [])) = _
      rw [Int.toNat_natCast, hx]
      rfl
    rw [eh]
    have ac : aC (Ce.mt 1 (fnM 2 [] m_Poly_coefficient) (rd 0) (aC (rd 1) aN)) aN (σ.set 1 (some (.im (.int (j : Nat))))) = .ok [fr xs[j]] (σ.set 1 (some (.im (.int (j : Nat))))) := by
      have m1 : Ce.mt 1 (fnM 2 [] m_Poly_coefficient) (rd 0) (aC (rd 1) aN) (σ.set 1 (some (.im (.int (j : Nat))))) = .ok (fr xs[j]) (σ.set 1 (some (.im (.int (j : Nat))))) := by
        subst hσ
        subst e
        unfold Ce.mt
        exact c _
      rw [aC, m1]
      rfl
    rw [cl1, ac]
    simp only [Out.bind]
    exact w _)
  have em : (rngD 0 1 xs.length).map (fun d => match d with | D.int i => D.str (S ((xs[i.toNat]?.map ft).getD [])) | d => d) = (xs.map ft).map fun t => D.str (S t) := by
    refine List.ext_getElem? fun j => ?_
    rw [List.getElem?_map, List.getElem?_map, List.getElem?_map]
    by_cases hj : j < xs.length
    · rw [rngD_get hj, List.getElem?_eq_getElem hj]
      simp [List.getElem?_eq_getElem hj]
    · rw [List.getElem?_eq_none (by rw [rngD_len]; omega), List.getElem?_eq_none (by omega)]
      rfl
  rw [em] at lc
  have fs := ft_sum xs hq
  have kj := kJoin_S (xs.map ft) (by rw [List.length_map]; omega)
  have jl := jb_len (xs.map ft)
  rw [List.length_map] at jl
  have key : b_write_poly σ = .rt (.str (S (pt xs))) σ := by
    unfold b_write_poly
    refine sCons_rt ?_
    rw [s91, s93, s32]
    have j1 : sm1 kJoin (cst (.str (S [32]))) (fz (nLc (itR1 (aC (cl1 (fun ds => opt (kLen ds)) (aC (fld ft_coefs (rd 0)) aN)) aN)) (gN 1) always (cl1 (fnM 1 [] m_write_fraction) (aC (Ce.mt 1 (fnM 2 [] m_Poly_coefficient) (rd 0) (aC (rd 1) aN)) aN)) [1])) σ = .ok (.str (S (jb (xs.map ft)))) σ := by
      unfold sm1 fz
      simp only [cst, Out.bind]
      rw [lc]
      simp only [kj, opt]
    have o1 : op2 tAddS (cst (.str (S [91]))) (sm1 kJoin (cst (.str (S [32]))) (fz (nLc (itR1 (aC (cl1 (fun ds => opt (kLen ds)) (aC (fld ft_coefs (rd 0)) aN)) aN)) (gN 1) always (cl1 (fnM 1 [] m_write_fraction) (aC (Ce.mt 1 (fnM 2 [] m_Poly_coefficient) (rd 0) (aC (rd 1) aN)) aN)) [1]))) σ = .ok (.str (S ([91] ++ jb (xs.map ft)))) σ := by
      rw [op2]
      simp only [cst, Out.bind] at j1 ⊢
      rw [j1]
      exact add_S _ _ _ (by simp; omega)
    unfold sRet
    rw [op2, o1]
    simp only [Out.bind, cst]
    rw [add_S _ _ _ (by simp; omega)]
    rfl
  subst hσ
  exact fn_rt (m := 2) ρ rfl key
end K98
namespace K98
open PySem PySem.Spec PyProof.Rows L2 Ce
/-! ### calls of listed_at -/
theorem lst_ok {k o c : Nat} {m : En → Out D} {pre rest pre' rest' : List Nat} {d : D} {r' : En} (r : En) (h : mL k m (ar pre rest o c k) = .ok d (some (cu pre' rest') :: r')) : clO 0 4 (mL k m) (oC (cst (.str (S [o]))) (oC (cst (.str (S [c]))) (oF k oN))) (some (cu pre rest) :: r) = .ok d (some (cu pre' rest') :: r) := by
  simp [clO, onO, oC, oF, oN, cst, Out.bind, h]
theorem lst_er {k o c : Nat} {m : En → Out D} {pre rest pre' rest' : List Nat} {x : Xn} {r' : En} (r : En) (h : mL k m (ar pre rest o c k) = .ex x (some (cu pre' rest') :: r')) : clO 0 4 (mL k m) (oC (cst (.str (S [o]))) (oC (cst (.str (S [c]))) (oF k oN))) (some (cu pre rest) :: r) = .ex x (some (cu pre' rest') :: r) := by
  simp [clO, onO, oC, oF, oN, cst, Out.bind, h]
theorem mlf : m_listed_at_fraction_at = mL 5 m_fraction_at := rfl
theorem mlp : m_listed_at_poly_at = mL 6 m_poly_at := rfl
/-! ### poly_at -/
theorem sepn {l : List Nat} (h : nxt 93 l) : sep l := h
theorem ft_head (x : Rat) (hq : okq x) : ∃ c r, ft x = c :: r ∧ (c = 45 ∨ dig c) := by
  unfold ft wt
  by_cases h0 : x.num = 0
  · rw [if_pos h0]
    exact ⟨48, _, rfl, .inr (by unfold dig; omega)⟩
  · rw [if_neg h0]
    by_cases h1 : 0 < x.num
    · rw [if_pos h1]
      obtain ⟨c, r, e, hc, _⟩ := dg_ok (n := x.num.toNat) (by omega) (by have := hq.1; omega)
      rw [e]
      exact ⟨c, _, rfl, .inr (by unfold dig; omega)⟩
    · rw [if_neg h1]
      exact ⟨45, _, rfl, .inl rfl⟩
theorem all_fr : ∀ (xs : List Rat), (∀ x ∈ xs, okq x) → All2 m_fraction_at (nxt 93) (xs.map ft) (xs.map fr)
  | [], _ => .nil
  | x :: xs, h => .cons (fun pre rest hb hs => fr_ok x (h x List.mem_cons_self) pre rest hb (sepn hs)) (all_fr xs fun y m => h y (List.mem_cons_of_mem _ m))
theorem lf_ok (xs : List Rat) (hq : ∀ x ∈ xs, okq x) (hl : xs.length ≤ 100) (pre rest : List Nat) (hb : big pre (pt xs ++ rest)) : ∃ r, mL 5 m_fraction_at (ar pre (pt xs ++ rest) 91 93 5) = .ok (.lst (xs.map fr)) (some (cu (pre ++ pt xs) rest) :: r) := by
  cases xs with
  | nil => exact list_empty hb
  | cons x xs =>
    obtain ⟨c, r, e, hc⟩ := ft_head x (hq x List.mem_cons_self)
    have e1 : pt (x :: xs) ++ rest = 91 :: (ft x ++ (jn (xs.map ft) ++ 93 :: rest)) := by simp [pt, jb]
    have e2 : pt (x :: xs) = 91 :: (ft x ++ (jn (xs.map ft) ++ [93])) := by simp [pt, jb]
    rw [e1] at hb ⊢
    rw [e2]
    refine list_ok (by omega) (fun pre rest hb hs => fr_ok x (hq x List.mem_cons_self) pre rest hb (sepn hs)) (all_fr xs fun y m => hq y (List.mem_cons_of_mem _ m)) (by rw [List.length_map]; simp at hl; omega) hb ?_
    rw [e]
    simp
    rcases hc with rfl | hc
    · omega
    · unfold dig at hc; omega
abbrev pS (pre rest : List Nat) (xs : List Rat) : En := [some (cu pre rest), some (.im (.lst (xs.map fr)))]
theorem isz_run (x : Rat) (ρ : En) : onV m_Fraction_is_zero [fr x] ρ = .ok (.bl (decide (x.num = 0))) ρ := by
  have e : b_Fraction_is_zero [some (.im (fr x))] = .rt (.bl (decide (x.num = 0))) [some (.im (fr x))] := rfl
  unfold onV
  show (match mOf 1 [] b_Fraction_is_zero [some (.im (fr x))] with
    | .ok d _ => Out.ok d ρ
    | _ => .er) = _
  unfold mOf
  show (match (match b_Fraction_is_zero [some (.im (fr x))] with
    | .nx ρ' => Out.ok D.non (argE [] [some (.im (fr x))] ρ')
    | .rt d ρ' => .ok d (argE [] [some (.im (fr x))] ρ')
    | .ex x' ρ' => .ex x' (argE [] [some (.im (fr x))] ρ')
    | _ => .er) with
    | .ok d _ => Out.ok d ρ
    | _ => .er) = _
  rw [e]
theorem atI_last {α : Type} (xs : List α) (h : xs ≠ []) : L2.atI xs (-1) = xs.getLast? := by
  have hp : 0 < xs.length := List.length_pos_iff.mpr h
  unfold L2.atI L2.ixN
  rw [if_neg (by omega), if_pos (by omega)]
  simp only [Option.bind_some]
  rw [List.getLast?_eq_getElem?]
  congr 1
  omega
def pzT : En → Out Bool := (tAnd2 (tst (op2 iGt (vLen (vw 1)) (cst (.int 0)))) (tst (prp 0 m_Fraction_is_zero (ixV 1 (iNeg (cst (.int 1)))))))
/-- is the last entry 0? -/
theorem pz_run (pre rest : List Nat) (xs : List Rat) : pzT (pS pre rest xs) = .ok (decide (xs.getLast? = some 0)) (pS pre rest xs) := by
  have v : vLen (vw 1) (pS pre rest xs) = .ok (.int (xs.length : Nat)) (pS pre rest xs) := by
    unfold vLen
    show Out.bind (Out.ok (xs.map fr) (pS pre rest xs)) _ = _
    simp only [Out.bind, List.length_map]
  have a1 : op2 iGt (vLen (vw 1)) (cst (.int 0)) (pS pre rest xs) = .ok (.bl (decide ((xs.length : Int) > 0))) (pS pre rest xs) := by
    unfold op2
    rw [v]
    rfl
  unfold pzT tAnd2 tst
  rw [a1]
  by_cases h0 : xs = []
  · subst h0
    rfl
  · have hp : 0 < xs.length := List.length_pos_iff.mpr h0
    rw [decide_eq_true (show (xs.length : Int) > 0 by omega)]
    simp only [Out.bind]
    have lst : xs.getLast? = some (xs.getLast h0) := List.getLast?_eq_some_getLast h0
    have a2 : ixV 1 (iNeg (cst (.int 1))) (pS pre rest xs) = .ok (fr (xs.getLast h0)) (pS pre rest xs) := by
      have vv : vw 1 (pS pre rest xs) = .ok (xs.map fr) (pS pre rest xs) := rfl
      unfold ixV
      rw [vv]
      simp only [Out.bind, iNeg, cst]
      rw [vv]
      simp only
      rw [atI_last _ (by simp [h0]), List.getLast?_map, lst]
      rfl
    have a3 : prp 0 m_Fraction_is_zero (ixV 1 (iNeg (cst (.int 1)))) (pS pre rest xs) = .ok (.bl (decide ((xs.getLast h0).num = 0))) (pS pre rest xs) := by
      unfold prp
      rw [a2]
      exact isz_run (xs.getLast h0) (pS pre rest xs)
    rw [a3]
    simp only
    rw [lst]
    congr 1
    rw [decide_eq_decide, Option.some.injEq]
    constructor
    · intro z
      exact Rat.num_eq_zero.mp z
    · intro z
      rw [z]
      rfl
def pzS : En → SOut := (sIf pzT (sCons (sExpr (mtO 3 0 1 m_Cursor_refuse oN)) sNil) sNil)
theorem poly_ok (xs : List Rat) (hx : ∀ x ∈ xs, okx x) (hl : xs.length ≤ 100) (hn : xs.getLast? ≠ some 0) : ∃ d, PolyOf xs d ∧ ∀ pre rest, big pre (pt xs ++ rest) → m_poly_at [some (cu pre (pt xs ++ rest))] = .ok d [some (cu (pre ++ pt xs) rest)] := by
  obtain ⟨d, hd, fr_⟩ := from_run xs hx hl (.inr hn)
  refine ⟨d, hd, fun pre rest hb => ?_⟩
  obtain ⟨r, q⟩ := lf_ok xs (fun x m => (hx x m).q) hl pre rest hb
  have q := lst_ok [none] q
  refine m1_ok (n := 1) (r := [some (.im (.lst (xs.map fr)))]) ?_
  show b_poly_at [some (cu pre (pt xs ++ rest)), none] = _
  unfold b_poly_at
  rw [s91, s93, mlf]
  refine (sCons_nx (ρ1 := pS (pre ++ pt xs) rest xs) ?_).trans ?_
  · unfold sSet
    rw [q]
    rfl
  refine (sCons_nx (ρ1 := pS (pre ++ pt xs) rest xs) ?_).trans ?_
  · show pzS _ = _
    unfold pzS sIf
    rw [pz_run, decide_eq_false hn]
    rfl
  · refine sCons_rt ?_
    unfold sRet cl1
    show Out.st (fnM 1 [] m_from_fractions [.lst (xs.map fr)] _) _ = _
    rw [fr_]
    rfl
theorem poly_zero (xs : List Rat) (hx : ∀ x ∈ xs, okq x) (hl : xs.length ≤ 100) (hn : xs.getLast? = some 0) (rest : List Nat) : Er m_poly_at (pt xs) (pt xs).length rest := by
  intro pre hb
  obtain ⟨r, q⟩ := lf_ok xs hx hl pre rest hb
  have q := lst_ok [none] q
  refine ⟨_, _, m1_er (n := 1) (pre' := pre ++ pt xs) (rest' := rest) (r := [some (.im (.lst (xs.map fr)))]) ?_⟩
  show b_poly_at [some (cu pre (pt xs ++ rest)), none] = _
  unfold b_poly_at
  rw [s91, s93, mlf]
  refine (sCons_nx (ρ1 := pS (pre ++ pt xs) rest xs) ?_).trans ?_
  · unfold sSet
    rw [q]
    rfl
  · have f := mtO_refuse (pre ++ pt xs) rest [some (.im (.lst (xs.map fr)))]
    rw [List.length_append] at f
    show sCons pzS _ _ = _
    unfold sCons pzS sIf
    rw [pz_run, decide_eq_true hn]
    simp only [Out.st, sCons, sExpr, f, SOut.sq]
/-- poly_at fails where its list fails -/
theorem poly_er {pre rest pre' rest' : List Nat} {x : Xn} {r' : En} (h : mL 5 m_fraction_at (ar pre rest 91 93 5) = .ex x (some (cu pre' rest') :: r')) : m_poly_at [some (cu pre rest)] = .ex x [some (cu pre' rest')] := by
  have q := lst_er [none] h
  refine m1_er (n := 1) (r := [none]) ?_
  show b_poly_at [some (cu pre rest), none] = _
  unfold b_poly_at
  rw [s91, s93, mlf]
  unfold sCons sSet
  rw [q]
  rfl
end K98
namespace K98
open PySem PySem.Spec PyProof.Rows L2 Ce
/-! ### the first word -/
def wds : D := .tup (([(PySem.Str.ofString "closed"), (PySem.Str.ofString "open"), (PySem.Str.ofString "recurrence"), (PySem.Str.ofString "none"), (PySem.Str.ofString "equal"), (PySem.Str.ofString "different")] : List Str).map D.str)
def wC : En → Out Bool := (tOr2 (tst (op2 tNotInT (rd 2) (rd 1))) (tst (op2 sNe (mtO 3 0 1 m_Cursor_ahead oN) (cst (.str (PySem.Str.ofString " "))))))
def wI : En → SOut := (sIf (tOr2 (tst (op2 sEq (rd 3) (rd 2))) (tst (op2 sEq (cl1 (fun ds => opt (kLen ds)) (aC (fz (nLc (itA (rd 1)) (gN 4) (tst (sm1 kStarts (rd 4) (rd 3))) (rd 4) [4])) aN)) (cst (.int 0))))) (sCons (sExpr (mtO 3 0 1 m_Cursor_refuse oN)) sNil) sNil)
def wB : En → SOut := (sCons (sSet 3 (op2 tAddS (rd 2) (mtO 3 0 1 m_Cursor_ahead oN))) (sCons wI (sCons (sSet 2 (rd 3)) (sCons (sFldA ft_place 0 (fun i j => i + j) (cst (.int 1))) sNil))))
abbrev wS (pre rest w : List Nat) (x3 : Option O) : En := [some (cu pre rest), some (.im wds), some (.im (.str (S w))), x3, none]
theorem wI1 (o : Option O) : wI [o, some (.im wds), some (.im (.str (S []))), some (.im (.str (S [101]))), none] = .nx [o, some (.im wds), some (.im (.str (S []))), some (.im (.str (S [101]))), none] := by kernel_rfl
theorem wI2 (o : Option O) : wI [o, some (.im wds), some (.im (.str (S [101]))), some (.im (.str (S [101, 113]))), none] = .nx [o, some (.im wds), some (.im (.str (S [101]))), some (.im (.str (S [101, 113]))), none] := by kernel_rfl
theorem wI3 (o : Option O) : wI [o, some (.im wds), some (.im (.str (S [101, 113]))), some (.im (.str (S [101, 113, 117]))), none] = .nx [o, some (.im wds), some (.im (.str (S [101, 113]))), some (.im (.str (S [101, 113, 117]))), none] := by kernel_rfl
theorem wI4 (o : Option O) : wI [o, some (.im wds), some (.im (.str (S [101, 113, 117]))), some (.im (.str (S [101, 113, 117, 97]))), none] = .nx [o, some (.im wds), some (.im (.str (S [101, 113, 117]))), some (.im (.str (S [101, 113, 117, 97]))), none] := by kernel_rfl
theorem wI5 (o : Option O) : wI [o, some (.im wds), some (.im (.str (S [101, 113, 117, 97]))), some (.im (.str (S [101, 113, 117, 97, 108]))), none] = .nx [o, some (.im wds), some (.im (.str (S [101, 113, 117, 97]))), some (.im (.str (S [101, 113, 117, 97, 108]))), none] := by kernel_rfl
theorem wB_run (pre rest w : List Nat) (c : Nat) (x3 : Option O) (hb : big pre (c :: rest)) (hw : w.length ≤ 100) (hi : ∀ o, wI [o, some (.im wds), some (.im (.str (S w))), some (.im (.str (S (w ++ [c])))), none] = .nx [o, some (.im wds), some (.im (.str (S w))), some (.im (.str (S (w ++ [c])))), none]) :
    wB (wS pre (c :: rest) w x3) = .nx (wS (pre ++ [c]) rest (w ++ [c]) (some (.im (.str (S (w ++ [c])))))) := by
  have a := mtO_ahead pre (c :: rest) [some (.im wds), some (.im (.str (S w))), x3, none] hb
  have e : S ((c :: rest).take 1) = S [c] := rfl
  rw [e] at a
  have o1 : op2 tAddS (rd 2) (mtO 3 0 1 m_Cursor_ahead oN) (wS pre (c :: rest) w x3) = .ok (.str (S (w ++ [c]))) (wS pre (c :: rest) w x3) := by
    have r2 : rd 2 (wS pre (c :: rest) w x3) = .ok (.str (S w)) (wS pre (c :: rest) w x3) := rfl
    unfold op2
    rw [r2]
    simp only [Out.bind]
    rw [a]
    simp only
    exact add_S _ _ _ (by simp; omega)
  unfold wB
  refine (sCons_nx (ρ1 := wS pre (c :: rest) w (some (.im (.str (S (w ++ [c])))))) ?_).trans ?_
  · unfold sSet
    rw [o1]
    rfl
  refine (sCons_nx (hi _)).trans ?_
  refine (sCons_nx (ρ1 := wS pre (c :: rest) (w ++ [c]) (some (.im (.str (S (w ++ [c])))))) rfl).trans ?_
  simp [sCons, sFldA, ft_place, cst, putD, Out.st, SOut.sq, sNil]
theorem wC1 (pre rest : List Nat) (x3 : Option O) : wC (wS pre rest [] x3) = .ok true (wS pre rest [] x3) := by kernel_rfl
theorem wC2 (pre rest : List Nat) (x3 : Option O) : wC (wS pre rest [101] x3) = .ok true (wS pre rest [101] x3) := by kernel_rfl
theorem wC3 (pre rest : List Nat) (x3 : Option O) : wC (wS pre rest [101, 113] x3) = .ok true (wS pre rest [101, 113] x3) := by kernel_rfl
theorem wC4 (pre rest : List Nat) (x3 : Option O) : wC (wS pre rest [101, 113, 117] x3) = .ok true (wS pre rest [101, 113, 117] x3) := by kernel_rfl
theorem wC5 (pre rest : List Nat) (x3 : Option O) : wC (wS pre rest [101, 113, 117, 97] x3) = .ok true (wS pre rest [101, 113, 117, 97] x3) := by kernel_rfl
theorem wC6 (pre rest : List Nat) (x3 : Option O) (hb : big pre (32 :: rest)) : wC (wS pre (32 :: rest) [101, 113, 117, 97, 108] x3) = .ok false (wS pre (32 :: rest) [101, 113, 117, 97, 108] x3) := by
  have n := ne_run pre (32 :: rest) 32 [some (.im wds), some (.im (.str (S [101, 113, 117, 97, 108]))), x3, none] hb
  have t : tst (op2 tNotInT (rd 2) (rd 1)) (wS pre (32 :: rest) [101, 113, 117, 97, 108] x3) = .ok false (wS pre (32 :: rest) [101, 113, 117, 97, 108] x3) := by kernel_rfl
  unfold wC
  rw [s32]
  unfold tOr2
  rw [t]
  simp only [Out.bind]
  rw [n]
  rfl
theorem wl (n : Nat) (ρ ρ1 : En) (h1 : wC ρ = .ok true ρ) (h2 : wB ρ = .nx ρ1) : whL wC wB (n + 1) ρ = whL wC wB n ρ1 := by
  rw [whL, h1]
  simp only [Out.st]
  rw [h2]
/-- equal -/
abbrev eqw : List Nat := [101, 113, 117, 97, 108]
theorem word_run (pre rest : List Nat) (hb : big pre (101 :: 113 :: 117 :: 97 :: 108 :: 32 :: rest)) : m_Cursor_take_word [some (cu pre (101 :: 113 :: 117 :: 97 :: 108 :: 32 :: rest)), some (.im wds)] = .ok (.str (S eqw)) [some (cu (pre ++ [101] ++ [113] ++ [117] ++ [97] ++ [108] ++ [32]) rest), some (.im wds)] := by
  have b1 := big_r hb
  have b2 := big_r b1
  have b3 := big_r b2
  have b4 := big_r b3
  have b5 := big_r b4
  have w1 := wB_run pre _ [] 101 none hb (by simp) wI1
  have w2 := wB_run (pre ++ [101]) _ [101] 113 (some (.im (.str (S [101])))) b1 (by simp) wI2
  have w3 := wB_run (pre ++ [101] ++ [113]) _ [101, 113] 117 (some (.im (.str (S [101, 113])))) b2 (by simp) wI3
  have w4 := wB_run (pre ++ [101] ++ [113] ++ [117]) _ [101, 113, 117] 97 (some (.im (.str (S [101, 113, 117])))) b3 (by simp) wI4
  have w5 := wB_run (pre ++ [101] ++ [113] ++ [117] ++ [97]) _ [101, 113, 117, 97] 108 (some (.im (.str (S [101, 113, 117, 97])))) b4 (by simp) wI5
  have lp : whL wC wB 1000000000 (wS pre (101 :: 113 :: 117 :: 97 :: 108 :: 32 :: rest) [] none) = .nx (wS (pre ++ [101] ++ [113] ++ [117] ++ [97] ++ [108]) (32 :: rest) eqw (some (.im (.str (S eqw))))) := by
    rw [show (1000000000 : Nat) = 999999994 + 1 + 1 + 1 + 1 + 1 + 1 from rfl]
    rw [wl _ _ _ (wC1 _ _ _) w1]
    refine (wl _ _ _ (wC2 _ _ _) w2).trans ?_
    refine (wl _ _ _ (wC3 _ _ _) w3).trans ?_
    refine (wl _ _ _ (wC4 _ _ _) w4).trans ?_
    refine (wl _ _ _ (wC5 _ _ _) w5).trans ?_
    have z := wC6 (pre ++ [101] ++ [113] ++ [117] ++ [97] ++ [108]) rest (some (.im (.str (S eqw)))) b5
    rw [whL]
    show Out.st (wC (wS (pre ++ [101] ++ [113] ++ [117] ++ [97] ++ [108]) (32 :: rest) eqw (some (.im (.str (S eqw)))))) _ = _
    rw [z]
    rfl
  have key : b_Cursor_take_word [some (cu pre (101 :: 113 :: 117 :: 97 :: 108 :: 32 :: rest)), some (.im wds), none, none, none] = .rt (.str (S eqw)) (wS (pre ++ [101] ++ [113] ++ [117] ++ [97] ++ [108] ++ [32]) rest eqw (some (.im (.str (S eqw))))) := by
    unfold b_Cursor_take_word
    refine (sCons_nx (ρ1 := wS pre (101 :: 113 :: 117 :: 97 :: 108 :: 32 :: rest) [] none) rfl).trans ?_
    refine (sCons_nx lp).trans ?_
    have f : (sFldA ft_place 0 (fun i j => i + j) (cst (.int 1))) (wS (pre ++ [101] ++ [113] ++ [117] ++ [97] ++ [108]) (32 :: rest) eqw (some (.im (.str (S eqw))))) = .nx (wS (pre ++ [101] ++ [113] ++ [117] ++ [97] ++ [108] ++ [32]) rest eqw (some (.im (.str (S eqw))))) := by
      simp [sFldA, ft_place, cst, putD, Out.st]
      omega
    refine (sCons_nx f).trans rfl
  show mOf 5 [0] b_Cursor_take_word _ = _
  unfold mOf
  show (match b_Cursor_take_word [some (cu pre (101 :: 113 :: 117 :: 97 :: 108 :: 32 :: rest)), some (.im wds), none, none, none] with
    | .nx ρ' => Out.ok D.non (argE [0] [some (cu pre (101 :: 113 :: 117 :: 97 :: 108 :: 32 :: rest)), some (.im wds)] ρ')
    | .rt d ρ' => .ok d (argE [0] [some (cu pre (101 :: 113 :: 117 :: 97 :: 108 :: 32 :: rest)), some (.im wds)] ρ')
    | .ex x ρ' => .ex x (argE [0] [some (cu pre (101 :: 113 :: 117 :: 97 :: 108 :: 32 :: rest)), some (.im wds)] ρ')
    | _ => .er) = _
  rw [key]
  rfl
end K98
namespace K98
open PySem PySem.Spec PyProof.Rows L2 Ce
/-! ### operators -/
def okP (xs : List Rat) : Prop := (∀ x ∈ xs, okx x) ∧ xs.length ≤ 4 ∧ xs.getLast? ≠ some 0
inductive AllP : List (List Rat) → List D → Prop
  | nil : AllP [] []
  | cons {xs : List Rat} {d : D} {P : List (List Rat)} {ds : List D} (h : PolyOf xs d) (l : AllP P ds) : AllP (xs :: P) (d :: ds)
theorem AllP.len : ∀ {P : List (List Rat)} {ds : List D}, AllP P ds → P.length = ds.length
  | _, _, .nil => rfl
  | _, _, .cons _ l => congrArg (· + 1) l.len
theorem AllP.get : ∀ {P : List (List Rat)} {ds : List D} {i : Nat} {d : D}, AllP P ds → ds[i]? = some d → ∃ xs, P[i]? = some xs ∧ PolyOf xs d
  | _, _, _, _, .nil, e => by simp at e
  | _, _, 0, _, .cons h l, e => by simp at e; subst e; exact ⟨_, rfl, h⟩
  | _, _, i + 1, d, .cons h l, e => by
    obtain ⟨xs, h1, h2⟩ := AllP.get (i := i) (d := d) l (by simpa using e)
    exact ⟨xs, by simpa using h1, h2⟩
theorem all_poly : ∀ (P : List (List Rat)), (∀ p ∈ P, okP p) → ∃ ds, All2 m_poly_at (nxt 62) (P.map pt) ds ∧ AllP P ds
  | [], _ => ⟨[], .nil, .nil⟩
  | p :: P, h => by
    obtain ⟨h1, h2, h3⟩ := h p List.mem_cons_self
    obtain ⟨d, hd, q⟩ := poly_ok p h1 (by omega) h3
    obtain ⟨ds, a, b⟩ := all_poly P fun y m => h y (List.mem_cons_of_mem _ m)
    exact ⟨d :: ds, .cons (fun pre rest hb _ => q pre rest hb) a, .cons hd b⟩
/-- the text of an operator -/
def ot (P : List (List Rat)) : List Nat := 60 :: (jb (P.map pt) ++ [62])
theorem lp_ok (P : List (List Rat)) (hP : ∀ p ∈ P, okP p) (hl : P.length ≤ 100) : ∃ ds, AllP P ds ∧ ∀ pre rest, big pre (ot P ++ rest) → ∃ r, mL 6 m_poly_at (ar pre (ot P ++ rest) 60 62 6) = .ok (.lst ds) (some (cu (pre ++ ot P) rest) :: r) := by
  cases P with
  | nil => exact ⟨[], .nil, fun pre rest hb => list_empty hb⟩
  | cons p P =>
    obtain ⟨h1, h2, h3⟩ := hP p List.mem_cons_self
    obtain ⟨d, hd, q⟩ := poly_ok p h1 (by omega) h3
    obtain ⟨ds, a, b⟩ := all_poly P fun y m => hP y (List.mem_cons_of_mem _ m)
    refine ⟨d :: ds, .cons hd b, fun pre rest hb => ?_⟩
    have e1 : ot (p :: P) ++ rest = 60 :: (pt p ++ (jn (P.map pt) ++ 62 :: rest)) := by simp [ot, jb]
    have e2 : ot (p :: P) = 60 :: (pt p ++ (jn (P.map pt) ++ [62])) := by simp [ot, jb]
    rw [e1] at hb ⊢
    rw [e2]
    refine list_ok (by omega) (fun pre rest hb _ => q pre rest hb) a (by rw [List.length_map]; simp at hl; omega) hb ?_
    simp [pt]
theorem pisz_run {xs : List Rat} {d : D} (h : PolyOf xs d) (ρ : En) : onV m_Poly_is_zero [d] ρ = .ok (.bl (decide (xs.length = 0))) ρ := by
  obtain ⟨cs, den, rfl, hl, _⟩ := h
  have e : b_Poly_is_zero [some (.im (.ins 1 [.tup (cs.map .int), .int den]))] = .rt (.bl (decide (xs.length = 0))) [some (.im (.ins 1 [.tup (cs.map .int), .int den]))] := by
    have e0 : b_Poly_is_zero [some (.im (.ins 1 [.tup (cs.map .int), .int den]))] = .rt (.bl (decide (((cs.map D.int).length : Int) = 0))) [some (.im (.ins 1 [.tup (cs.map .int), .int den]))] := rfl
    rw [e0, List.length_map, hl]
    congr 2
    rw [decide_eq_decide]
    omega
  unfold onV
  show (match mOf 1 [] b_Poly_is_zero [some (.im (.ins 1 [.tup (cs.map .int), .int den]))] with
    | .ok d _ => Out.ok d ρ
    | _ => .er) = _
  unfold mOf
  show (match (match b_Poly_is_zero [some (.im (.ins 1 [.tup (cs.map .int), .int den]))] with
    | .nx ρ' => Out.ok D.non (argE [] [some (.im (.ins 1 [.tup (cs.map .int), .int den]))] ρ')
    | .rt d ρ' => .ok d (argE [] [some (.im (.ins 1 [.tup (cs.map .int), .int den]))] ρ')
    | .ex x' ρ' => .ex x' (argE [] [some (.im (.ins 1 [.tup (cs.map .int), .int den]))] ρ')
    | _ => .er) with
    | .ok d _ => Out.ok d ρ
    | _ => .er) = _
  rw [e]
/-- is the last polynomial 0? where the list stands at slot i -/
theorem lastz (i : Nat) {P : List (List Rat)} {ds : List D} (h : AllP P ds) (σ : En) (v : vw i σ = .ok ds σ) : (tAnd2 (tst (op2 iGt (vLen (vw i)) (cst (.int 0)))) (tst (prp 1 m_Poly_is_zero (ixV i (iNeg (cst (.int 1))))))) σ = .ok (decide (P.getLast? = some [])) σ := by
  have vl : vLen (vw i) σ = .ok (.int (ds.length : Nat)) σ := by
    unfold vLen
    rw [v]
    rfl
  have a1 : op2 iGt (vLen (vw i)) (cst (.int 0)) σ = .ok (.bl (decide ((ds.length : Int) > 0))) σ := by
    unfold op2
    rw [vl]
    rfl
  unfold tAnd2 tst
  rw [a1]
  by_cases h0 : ds = []
  · subst h0
    cases h
    rfl
  · have hp : 0 < ds.length := List.length_pos_iff.mpr h0
    rw [decide_eq_true (show (ds.length : Int) > 0 by omega)]
    simp only [Out.bind]
    have lst : ds.getLast? = some (ds.getLast h0) := List.getLast?_eq_some_getLast h0
    have li : ds[ds.length - 1]? = some (ds.getLast h0) := by rw [← List.getLast?_eq_getElem?]; exact lst
    obtain ⟨xs, hx, hpo⟩ := h.get li
    have hx' : P.getLast? = some xs := by rw [List.getLast?_eq_getElem?, h.len]; exact hx
    have a2 : ixV i (iNeg (cst (.int 1))) σ = .ok (ds.getLast h0) σ := by
      unfold ixV
      rw [v]
      simp only [Out.bind, iNeg, cst]
      rw [v]
      simp only
      rw [atI_last _ h0, lst]
      rfl
    have a3 : prp 1 m_Poly_is_zero (ixV i (iNeg (cst (.int 1)))) σ = .ok (.bl (decide (xs.length = 0))) σ := by
      unfold prp
      rw [a2]
      have hpo' := hpo
      obtain ⟨cs, den, e, _⟩ := hpo'
      rw [e] at hpo ⊢
      exact pisz_run hpo σ
    rw [a3]
    simp only
    rw [hx']
    congr 1
    rw [decide_eq_decide, Option.some.injEq]
    exact List.length_eq_zero_iff
theorem op_init {P : List (List Rat)} {ds : List D} (h : AllP P ds) (hn : P.getLast? ≠ some []) (ρ : En) : mkM 2 1 2 [] m_OperatorD_initD [.lst ds] ρ = .ok (.ins 2 [.tup ds]) ρ := by
  have t := lastz 2 h [some (.oi 2 []), some (.im (.lst ds)), some (.ol ds)] rfl
  rw [decide_eq_false hn] at t
  have key : b_OperatorD_initD [some (.oi 2 []), some (.im (.lst ds)), none] = .nx [some (.oi 2 [.tup ds]), some (.im (.lst ds)), some (.ol ds)] := by
    unfold b_OperatorD_initD
    refine (sCons_nx (ρ1 := [some (.oi 2 []), some (.im (.lst ds)), some (.ol ds)]) rfl).trans ?_
    refine (sCons_nx (ρ1 := [some (.oi 2 []), some (.im (.lst ds)), some (.ol ds)]) ?_).trans rfl
    rw [show (1000000000 : Nat) = 999999999 + 1 from rfl, whL, t]
    rfl
  unfold mkM onMk
  simp only [List.length_cons, List.length_nil, decide_true, if_true, List.append_nil, List.map]
  show (match mOf 3 [0] b_OperatorD_initD [some (.oi 2 []), some (.im (.lst ds))] with
    | .ok .non (some (.oi c' fs) :: _) => if decide (c' = 2 ∧ fs.length = 1) then Out.ok (D.ins 2 fs) ρ else .er
    | .ex x _ => .ex x ρ
    | _ => .er) = _
  unfold mOf
  show (match (match b_OperatorD_initD [some (.oi 2 []), some (.im (.lst ds)), none] with
    | .nx ρ' => Out.ok D.non (argE [0] [some (.oi 2 []), some (.im (.lst ds))] ρ')
    | .rt d ρ' => .ok d (argE [0] [some (.oi 2 []), some (.im (.lst ds))] ρ')
    | .ex x ρ' => .ex x (argE [0] [some (.oi 2 []), some (.im (.lst ds))] ρ')
    | _ => .er) with
    | .ok .non (some (.oi c' fs) :: _) => if decide (c' = 2 ∧ fs.length = 1) then Out.ok (D.ins 2 fs) ρ else .er
    | .ex x _ => .ex x ρ
    | _ => .er) = _
  rw [key]
  rfl
def OpOf (P : List (List Rat)) (d : D) : Prop := ∃ ds, d = .ins 2 [.tup ds] ∧ AllP P ds
abbrev oS (pre rest : List Nat) (ds : List D) : En := [some (cu pre rest), some (.im (.lst ds))]
theorem opr_ok (P : List (List Rat)) (hP : ∀ p ∈ P, okP p) (hl : P.length ≤ 100) (hn : P.getLast? ≠ some []) : ∃ d, OpOf P d ∧ ∀ pre rest, big pre (ot P ++ rest) → m_operator_at [some (cu pre (ot P ++ rest))] = .ok d [some (cu (pre ++ ot P) rest)] := by
  obtain ⟨ds, hds, q⟩ := lp_ok P hP hl
  refine ⟨_, ⟨ds, rfl, hds⟩, fun pre rest hb => ?_⟩
  obtain ⟨r, q⟩ := q pre rest hb
  have q := lst_ok [none] q
  have t := lastz 1 hds (oS (pre ++ ot P) rest ds) rfl
  rw [decide_eq_false hn] at t
  refine m1_ok (n := 1) (r := [some (.im (.lst ds))]) ?_
  show b_operator_at [some (cu pre (ot P ++ rest)), none] = _
  unfold b_operator_at
  rw [s60, s62, mlp]
  refine (sCons_nx (ρ1 := oS (pre ++ ot P) rest ds) ?_).trans ?_
  · unfold sSet
    rw [q]
    rfl
  refine (sCons_nx (ρ1 := oS (pre ++ ot P) rest ds) ?_).trans ?_
  · unfold sIf
    rw [t]
    rfl
  · refine sCons_rt ?_
    unfold sRet cl1
    show Out.st (mkM 2 1 2 [] m_OperatorD_initD [.lst ds] _) _ = _
    rw [op_init hds hn]
    rfl
theorem opr_zero (P : List (List Rat)) (hP : ∀ p ∈ P, okP p) (hl : P.length ≤ 100) (hn : P.getLast? = some []) (rest : List Nat) : Er m_operator_at (ot P) (ot P).length rest := by
  intro pre hb
  obtain ⟨ds, hds, q⟩ := lp_ok P hP hl
  obtain ⟨r, q⟩ := q pre rest hb
  have q := lst_ok [none] q
  have t := lastz 1 hds (oS (pre ++ ot P) rest ds) rfl
  rw [decide_eq_true hn] at t
  refine ⟨_, _, m1_er (n := 1) (pre' := pre ++ ot P) (rest' := rest) (r := [some (.im (.lst ds))]) ?_⟩
  show b_operator_at [some (cu pre (ot P ++ rest)), none] = _
  unfold b_operator_at
  rw [s60, s62, mlp]
  refine (sCons_nx (ρ1 := oS (pre ++ ot P) rest ds) ?_).trans ?_
  · unfold sSet
    rw [q]
    rfl
  · have f := mtO_refuse (pre ++ ot P) rest [some (.im (.lst ds))]
    rw [List.length_append] at f
    unfold sCons sIf
    rw [t]
    simp only [Out.st, sCons, sExpr, f, SOut.sq]
theorem opr_er {pre rest pre' rest' : List Nat} {x : Xn} {r' : En} (h : mL 6 m_poly_at (ar pre rest 60 62 6) = .ex x (some (cu pre' rest') :: r')) : m_operator_at [some (cu pre rest)] = .ex x [some (cu pre' rest')] := by
  have q := lst_er [none] h
  refine m1_er (n := 1) (r := [none]) ?_
  show b_operator_at [some (cu pre rest), none] = _
  unfold b_operator_at
  rw [s60, s62, mlp]
  unfold sCons sSet
  rw [q]
  rfl
/-! ### the writer of operators -/
theorem pt_sum : ∀ (P : List (List Rat)), (∀ p ∈ P, okP p) → ((P.map pt).map List.length).sum ≤ 42 * P.length
  | [], _ => by simp
  | p :: P, h => by
    obtain ⟨h1, h2, _⟩ := h p List.mem_cons_self
    have a := pt_len p fun x m => (h1 x m).q
    have b := pt_sum P fun y m => h y (List.mem_cons_of_mem _ m)
    simp at b ⊢
    omega
theorem ot_len (P : List (List Rat)) (hP : ∀ p ∈ P, okP p) : (ot P).length ≤ 43 * P.length + 2 := by
  have a := pt_sum P hP
  have b := jb_len (P.map pt)
  rw [List.length_map] at b
  simp [ot]
  omega
theorem AllP.texts : ∀ {P : List (List Rat)} {ds : List D}, AllP P ds → (∀ p ∈ P, okP p) → ∃ h : D → D, (ds.map h = (P.map pt).map fun t => D.str (S t)) ∧ ∀ d ∈ ds, ∀ ρ, fnM 1 [] m_write_poly [d] ρ = .ok (h d) ρ := fun {P ds} hA hP => by
  refine ⟨fun d => match fnM 1 [] m_write_poly [d] [] with | .ok e _ => e | _ => .non, ?_, ?_⟩
  · induction hA with
    | nil => rfl
    | @cons xs d P ds h l ih =>
      obtain ⟨h1, h2, _⟩ := hP xs List.mem_cons_self
      have w := wp_run h (fun x m => (h1 x m).q) (by omega) []
      rw [List.map_cons, List.map_cons, List.map_cons, ih fun y m => hP y (List.mem_cons_of_mem _ m), w]
  · intro d m ρ
    obtain ⟨i, ei⟩ := List.mem_iff_getElem?.mp m
    obtain ⟨xs, ex, h⟩ := hA.get ei
    obtain ⟨h1, h2, _⟩ := hP xs (List.mem_of_getElem? ex)
    have w := wp_run h (fun x m => (h1 x m).q) (by omega) []
    rw [wp_run h (fun x m => (h1 x m).q) (by omega) ρ]
    dsimp only
    rw [w]
theorem wo_run {P : List (List Rat)} {d : D} (h : OpOf P d) (hP : ∀ p ∈ P, okP p) (hl : P.length ≤ 100) (ρ : En) : fnM 1 [] m_write_operator [d] ρ = .ok (.str (S (ot P))) ρ := by
  obtain ⟨ds, rfl, hds⟩ := h
  obtain ⟨hh, e1, e2⟩ := hds.texts hP
  have sz : 1000 < sizeLine := by rw [sizeLine_eq]; omega
  generalize hσ : ([some (.im (.ins 2 [.tup ds])), none] : En) = σ
  have it : itA (fld ft_coefs (rd 0)) σ = .ok ds σ := by subst hσ; rfl
  have lc := lc_map (fe := cl1 (fnM 1 [] m_write_poly) (aC (rd 1) aN)) (v := 1) (h := hh) (o := none) it (by subst hσ; rfl) (.inl rfl) (by rw [← hds.len]; omega) (by
    intro d hd
    have r1 : rd 1 (σ.set 1 (some (.im d))) = .ok d (σ.set 1 (some (.im d))) := by subst hσ; rfl
    unfold cl1 aC
    rw [r1]
    exact e2 d hd _)
  rw [e1] at lc
  have ps := pt_sum P hP
  have kj := kJoin_S (P.map pt) (by rw [List.length_map]; omega)
  have jl := jb_len (P.map pt)
  rw [List.length_map] at jl
  have key : b_write_operator σ = .rt (.str (S (ot P))) σ := by
    unfold b_write_operator
    refine sCons_rt ?_
    rw [s60, s62, s32]
    have j1 : sm1 kJoin (cst (.str (S [32]))) (fz (nLc (itA (fld ft_coefs (rd 0))) (gN 1) always (cl1 (fnM 1 [] m_write_poly) (aC (rd 1) aN)) [1])) σ = .ok (.str (S (jb (P.map pt)))) σ := by
      unfold sm1 fz
      simp only [cst, Out.bind]
      rw [lc]
      simp only [kj, opt]
    have o1 : op2 tAddS (cst (.str (S [60]))) (sm1 kJoin (cst (.str (S [32]))) (fz (nLc (itA (fld ft_coefs (rd 0))) (gN 1) always (cl1 (fnM 1 [] m_write_poly) (aC (rd 1) aN)) [1]))) σ = .ok (.str (S ([60] ++ jb (P.map pt)))) σ := by
      rw [op2]
      simp only [cst, Out.bind] at j1 ⊢
      rw [j1]
      exact add_S _ _ _ (by simp; omega)
    unfold sRet
    rw [op2, o1]
    simp only [Out.bind, cst]
    rw [add_S _ _ _ (by simp; omega)]
    rfl
  subst hσ
  exact fn_rt (m := 2) ρ rfl key
end K98
namespace K98
open PySem PySem.Spec PyProof.Rows L2 Ce
/-! ### the certificate of equality -/
theorem eq_ok {pre rest p1 r1 p2 r2 : List Nat} {d1 d2 : D} (h1 : m_operator_at [some (cu pre rest)] = .ok d1 [some (cu p1 (32 :: r1))]) (hb : big p1 (32 :: r1)) (h2 : m_operator_at [some (cu (p1 ++ [32]) r1)] = .ok d2 [some (cu p2 r2)]) :
    m_equal_at [some (cu pre rest)] = .ok (.tup [.str (PySem.Str.ofString "equal"), d1, d2]) [some (cu p2 r2)] := by
  have q1 := clO_ok [none] h1
  have t := tk_ok p1 r1 32 [some (.im d1)] hb
  have q2 := clO_ok [some (.im d1)] h2
  have sz : 3 ≤ sizeLine := by rw [sizeLine_eq]; omega
  refine m1_ok (n := 1) (r := [some (.im d1)]) ?_
  show b_equal_at [some (cu pre rest), none] = _
  unfold b_equal_at
  rw [s32]
  refine (sCons_nx (ρ1 := [some (cu p1 (32 :: r1)), some (.im d1)]) ?_).trans ?_
  · unfold sSet
    rw [q1]
    rfl
  refine (sCons_nx (ρ1 := [some (cu (p1 ++ [32]) r1), some (.im d1)]) ?_).trans ?_
  · unfold sExpr
    rw [t]
    rfl
  · refine sCons_rt ?_
    have r1' : rd 1 [some (cu (p1 ++ [32]) r1), some (.im d1)] = .ok d1 [some (cu (p1 ++ [32]) r1), some (.im d1)] := rfl
    have a : aC (cst (.str (PySem.Str.ofString "equal"))) (aC (rd 1) (aC (clO 0 1 m_operator_at oN) aN)) [some (cu (p1 ++ [32]) r1), some (.im d1)] = .ok [.str (PySem.Str.ofString "equal"), d1, d2] [some (cu p2 r2), some (.im d1)] := by
      unfold aC
      simp only [cst, Out.bind]
      rw [r1']
      simp only
      rw [q2]
      simp only [aN]
    unfold sRet vTup
    rw [a]
    simp only [Out.bind, List.length_cons, List.length_nil, sz, decide_true, if_true, Out.st]
theorem eq_er1 {pre rest p1 r1 : List Nat} {x : Xn} (h1 : m_operator_at [some (cu pre rest)] = .ex x [some (cu p1 r1)]) : m_equal_at [some (cu pre rest)] = .ex x [some (cu p1 r1)] := by
  have q1 := clO_er [none] h1
  refine m1_er (n := 1) (r := [none]) ?_
  show b_equal_at [some (cu pre rest), none] = _
  unfold b_equal_at sCons sSet
  rw [q1]
  rfl
theorem eq_er2 {pre rest p1 r1 p2 r2 : List Nat} {d1 : D} {x : Xn} (h1 : m_operator_at [some (cu pre rest)] = .ok d1 [some (cu p1 (32 :: r1))]) (hb : big p1 (32 :: r1)) (h2 : m_operator_at [some (cu (p1 ++ [32]) r1)] = .ex x [some (cu p2 r2)]) :
    m_equal_at [some (cu pre rest)] = .ex x [some (cu p2 r2)] := by
  have q1 := clO_ok [none] h1
  have t := tk_ok p1 r1 32 [some (.im d1)] hb
  have q2 := clO_er [some (.im d1)] h2
  refine m1_er (n := 1) (r := [some (.im d1)]) ?_
  show b_equal_at [some (cu pre rest), none] = _
  unfold b_equal_at
  rw [s32]
  refine (sCons_nx (ρ1 := [some (cu p1 (32 :: r1)), some (.im d1)]) ?_).trans ?_
  · unfold sSet
    rw [q1]
    rfl
  refine (sCons_nx (ρ1 := [some (cu (p1 ++ [32]) r1), some (.im d1)]) ?_).trans ?_
  · unfold sExpr
    rw [t]
    rfl
  · have r1' : rd 1 [some (cu (p1 ++ [32]) r1), some (.im d1)] = .ok d1 [some (cu (p1 ++ [32]) r1), some (.im d1)] := rfl
    have a : aC (cst (.str (PySem.Str.ofString "equal"))) (aC (rd 1) (aC (clO 0 1 m_operator_at oN) aN)) [some (cu (p1 ++ [32]) r1), some (.im d1)] = .ex x [some (cu p2 r2), some (.im d1)] := by
      unfold aC
      simp only [cst, Out.bind]
      rw [r1']
      simp only
      rw [q2]
    unfold sCons sRet vTup
    rw [a]
    rfl
/-- all behind the word -/
def cT2 : En → SOut := (sCons (sIf (tst (op2 sEq (rd 1) (cst (.str (PySem.Str.ofString "closed"))))) (sCons sEr sNil) sNil) (sCons (sIf (tst (op2 sEq (rd 1) (cst (.str (PySem.Str.ofString "open"))))) (sCons sEr sNil) sNil) (sCons (sIf (tst (op2 sEq (rd 1) (cst (.str (PySem.Str.ofString "recurrence"))))) (sCons sEr sNil) sNil) (sCons (sIf (tst (op2 sEq (rd 1) (cst (.str (PySem.Str.ofString "none"))))) (sCons sEr sNil) sNil) (sCons (sIf (tst (op2 sEq (rd 1) (cst (.str (PySem.Str.ofString "equal"))))) (sCons (sRet (clO 0 1 m_equal_at oN)) sNil) sNil) (sCons (sRet (vTup (aC (cst (.str (PySem.Str.ofString "different"))) (aC (clO 0 1 m_count_at oN) aN)))) sNil))))))
theorem cT2_run (o : Option O) : cT2 [o, some (.im (.str (S eqw)))] = SOut.sq (SOut.sq ((sRet (clO 0 1 m_equal_at oN)) [o, some (.im (.str (S eqw)))]) sNil) (sCons (sRet (vTup (aC (cst (.str (PySem.Str.ofString "different"))) (aC (clO 0 1 m_count_at oN) aN)))) sNil) := by
  have ne : ∀ z : Str, decide (S eqw = z) = false → tst (op2 sEq (rd 1) (cst (.str z))) [o, some (.im (.str (S eqw)))] = .ok false [o, some (.im (.str (S eqw)))] := fun z h => by
    show Out.ok (decide (S eqw = z)) _ = _
    rw [h]
  have e1 := ne (PySem.Str.ofString "closed") (by decide +kernel)
  have e2 := ne (PySem.Str.ofString "open") (by decide +kernel)
  have e3 := ne (PySem.Str.ofString "recurrence") (by decide +kernel)
  have e4 := ne (PySem.Str.ofString "none") (by decide +kernel)
  have e5 : tst (op2 sEq (rd 1) (cst (.str (PySem.Str.ofString "equal")))) [o, some (.im (.str (S eqw)))] = .ok true [o, some (.im (.str (S eqw)))] := by
    show Out.ok (decide (S eqw = PySem.Str.ofString "equal")) _ = _
    rw [show decide (S eqw = PySem.Str.ofString "equal") = true by decide +kernel]
  unfold cT2
  refine (sCons_nx (ρ1 := [o, some (.im (.str (S eqw)))]) (by unfold sIf; rw [e1]; rfl)).trans ?_
  refine (sCons_nx (ρ1 := [o, some (.im (.str (S eqw)))]) (by unfold sIf; rw [e2]; rfl)).trans ?_
  refine (sCons_nx (ρ1 := [o, some (.im (.str (S eqw)))]) (by unfold sIf; rw [e3]; rfl)).trans ?_
  refine (sCons_nx (ρ1 := [o, some (.im (.str (S eqw)))]) (by unfold sIf; rw [e4]; rfl)).trans ?_
  show ((sIf (tst (op2 sEq (rd 1) (cst (.str (PySem.Str.ofString "equal"))))) (sCons (sRet (clO 0 1 m_equal_at oN)) sNil) sNil) [o, some (.im (.str (S eqw)))]).sq _ = _
  unfold sIf
  rw [e5]
  rfl
abbrev eqs (rest : List Nat) : List Nat := 101 :: 113 :: 117 :: 97 :: 108 :: 32 :: rest
abbrev eqp : List Nat := [101, 113, 117, 97, 108, 32]
theorem ct_set (rest : List Nat) (hb : big [] (eqs rest)) : (sSet 1 (mtO 3 0 2 m_Cursor_take_word (oC (cst (.tup (([(PySem.Str.ofString "closed"), (PySem.Str.ofString "open"), (PySem.Str.ofString "recurrence"), (PySem.Str.ofString "none"), (PySem.Str.ofString "equal"), (PySem.Str.ofString "different")] : List Str).map D.str))) oN))) [some (cu [] (eqs rest)), none] = .nx [some (cu eqp rest), some (.im (.str (S eqw)))] := by
  have w := word_run [] rest hb
  have e : mtO 3 0 2 m_Cursor_take_word (oC (cst wds) oN) [some (cu [] (eqs rest)), none] = .ok (.str (S eqw)) [some (cu eqp rest), none] := by
    unfold mtO onO oC oN cst
    simp only [List.getElem?_cons_zero, decide_true, if_true, Out.bind, List.length_cons, List.length_nil, List.map]
    show (match m_Cursor_take_word [some (cu [] (eqs rest)), some (.im wds)] with
      | .ok d (some (.oi c' fs') :: _) => Out.ok d ([some (cu [] (eqs rest)), none].set 0 (some (.oi c' fs')))
      | .ex x (some (.oi c' fs') :: _) => .ex x ([some (cu [] (eqs rest)), none].set 0 (some (.oi c' fs')))
      | _ => .er) = _
    rw [w]
    rfl
  unfold sSet
  show Out.st (mtO 3 0 2 m_Cursor_take_word (oC (cst wds) oN) [some (cu [] (eqs rest)), none]) _ = _
  rw [e]
  rfl
theorem ct_ok (rest p2 r2 : List Nat) (hb : big [] (eqs rest)) {d : D} (h : m_equal_at [some (cu eqp rest)] = .ok d [some (cu p2 r2)]) : m_certificate_at [some (cu [] (eqs rest))] = .ok d [some (cu p2 r2)] := by
  have q := clO_ok [some (.im (.str (S eqw)))] h
  refine m1_ok (n := 1) (r := [some (.im (.str (S eqw)))]) ?_
  show b_certificate_at [some (cu [] (eqs rest)), none] = _
  unfold b_certificate_at
  refine (sCons_nx (ct_set rest hb)).trans ?_
  refine (cT2_run _).trans ?_
  unfold sRet
  rw [q]
  rfl
theorem ct_er (rest p2 r2 : List Nat) (hb : big [] (eqs rest)) {x : Xn} (h : m_equal_at [some (cu eqp rest)] = .ex x [some (cu p2 r2)]) : m_certificate_at [some (cu [] (eqs rest))] = .ex x [some (cu p2 r2)] := by
  have q := clO_er [some (.im (.str (S eqw)))] h
  refine m1_er (n := 1) (r := [some (.im (.str (S eqw)))]) ?_
  show b_certificate_at [some (cu [] (eqs rest)), none] = _
  unfold b_certificate_at
  refine (sCons_nx (ct_set rest hb)).trans ?_
  refine (cT2_run _).trans ?_
  unfold sRet
  rw [q]
  rfl
theorem fin_run (pre : List Nat) (hb : big pre []) : m_Cursor_finish [some (cu pre [])] = .ok .non [some (cu pre [])] := by
  have hz : (S (pre ++ [])).length ≤ sizeLine := by rw [S_len, sizeLine_eq]; unfold big at hb; omega
  have t : tst (op2 iLt (fldV ft_place 0) (cl1 (fun ds => opt (kLen ds)) (aC (fldV ft_text 0) aN))) [some (cu pre [])] = .ok false [some (cu pre [])] := by
    have e : cl1 (fun ds => opt (kLen ds)) (aC (fldV ft_text 0) aN) [some (cu pre [])] = .ok (.int ((S (pre ++ [])).length : Nat)) [some (cu pre [])] := by
      unfold cl1 aC
      show Out.bind (Out.ok [D.str (S (pre ++ []))] [some (cu pre [])]) _ = _
      simp only [Out.bind, kLen, hz, decide_true, if_true, opt]
    have f : fldV ft_place 0 [some (cu pre [])] = .ok (.int (pre.length : Nat)) [some (cu pre [])] := rfl
    unfold tst op2
    rw [f]
    simp only [Out.bind]
    rw [e]
    simp only [iLt_int]
    rw [S_len, List.append_nil, decide_eq_false (by omega)]
  have key : b_Cursor_finish [some (cu pre [])] = .nx [some (cu pre [])] := by
    unfold b_Cursor_finish sCons sIf
    rw [t]
    rfl
  show mOf 1 [0] b_Cursor_finish _ = _
  unfold mOf
  show (match b_Cursor_finish [some (cu pre [])] with
    | .nx ρ' => Out.ok D.non (argE [0] [some (cu pre [])] ρ')
    | .rt d ρ' => .ok d (argE [0] [some (cu pre [])] ρ')
    | .ex x ρ' => .ex x (argE [0] [some (cu pre [])] ρ')
    | _ => .er) = _
  rw [key]
  rfl
theorem clO1_ok {m : En → Out D} {pre rest pre' rest' : List Nat} {d : D} {r' : En} (x0 x2 : Option O) (h : m [some (cu pre rest)] = .ok d (some (cu pre' rest') :: r')) : clO 1 1 m oN [x0, some (cu pre rest), x2] = .ok d [x0, some (cu pre' rest'), x2] := by
  simp [clO, onO, oN, Out.bind, h]
theorem clO1_er {m : En → Out D} {pre rest pre' rest' : List Nat} {x : Xn} {r' : En} (x0 x2 : Option O) (h : m [some (cu pre rest)] = .ex x (some (cu pre' rest') :: r')) : clO 1 1 m oN [x0, some (cu pre rest), x2] = .ex x [x0, some (cu pre' rest'), x2] := by
  simp [clO, onO, oN, Out.bind, h]
theorem mtO1_ok {m : En → Out D} {pre rest pre' rest' : List Nat} {d : D} {r' : En} (x0 x2 : Option O) (h : m [some (cu pre rest)] = .ok d (some (cu pre' rest') :: r')) : mtO 3 1 1 m oN [x0, some (cu pre rest), x2] = .ok d [x0, some (cu pre' rest'), x2] := by
  simp [mtO, onO, oN, Out.bind, h]
theorem rc_ok (rest p2 : List Nat) (hb : big [] (eqs rest)) (hb2 : big p2 []) {d : D} (h : m_equal_at [some (cu eqp rest)] = .ok d [some (cu p2 [])]) (ρ : En) : fnM 1 [] m_read_certificate [.str (S (eqs rest))] ρ = .ok d ρ := by
  have q := ct_ok rest p2 [] hb h
  have f := fin_run p2 hb2
  refine fn_rt (m := 3) (ρ' := [some (.im (.str (S (eqs rest)))), some (cu p2 []), some (.im d)]) ρ rfl ?_
  show b_read_certificate [some (.im (.str (S (eqs rest)))), none, none] = _
  unfold b_read_certificate
  refine (sCons_nx (ρ1 := [some (.im (.str (S (eqs rest)))), some (cu [] (eqs rest)), none]) rfl).trans ?_
  refine (sCons_nx (ρ1 := [some (.im (.str (S (eqs rest)))), some (cu p2 []), some (.im d)]) ?_).trans ?_
  · have e : clO 1 1 m_certificate_at oN [some (.im (.str (S (eqs rest)))), some (cu [] (eqs rest)), none] = .ok d [some (.im (.str (S (eqs rest)))), some (cu p2 []), none] := clO1_ok _ _ q
    unfold sSet
    rw [e]
    rfl
  refine (sCons_nx (ρ1 := [some (.im (.str (S (eqs rest)))), some (cu p2 []), some (.im d)]) ?_).trans rfl
  have e : mtO 3 1 1 m_Cursor_finish oN [some (.im (.str (S (eqs rest)))), some (cu p2 []), some (.im d)] = .ok .non [some (.im (.str (S (eqs rest)))), some (cu p2 []), some (.im d)] := mtO1_ok _ _ f
  unfold sExpr
  rw [e]
  rfl
theorem rc_er (rest p2 r2 : List Nat) (hb : big [] (eqs rest)) {x : Xn} (h : m_equal_at [some (cu eqp rest)] = .ex x [some (cu p2 r2)]) (ρ : En) : fnM 1 [] m_read_certificate [.str (S (eqs rest))] ρ = .ex x ρ := by
  have q := ct_er rest p2 r2 hb h
  have key : b_read_certificate [some (.im (.str (S (eqs rest)))), none, none] = .ex x [some (.im (.str (S (eqs rest)))), some (cu p2 r2), none] := by
    unfold b_read_certificate
    refine (sCons_nx (ρ1 := [some (.im (.str (S (eqs rest)))), some (cu [] (eqs rest)), none]) rfl).trans ?_
    have e : clO 1 1 m_certificate_at oN [some (.im (.str (S (eqs rest)))), some (cu [] (eqs rest)), none] = .ex x [some (.im (.str (S (eqs rest)))), some (cu p2 r2), none] := clO1_er _ _ q
    unfold sCons sSet
    rw [e]
    rfl
  unfold fnM onD
  simp only [List.length_singleton, List.length_nil, decide_true, if_true, List.append_nil, List.map]
  show (match mOf 3 [] b_read_certificate [some (.im (.str (S (eqs rest))))] with
    | .ok d _ => Out.ok d ρ
    | .ex x _ => .ex x ρ
    | .er => .er) = _
  unfold mOf
  show (match (match b_read_certificate [some (.im (.str (S (eqs rest)))), none, none] with
    | .nx ρ' => Out.ok D.non (argE [] [some (.im (.str (S (eqs rest))))] ρ')
    | .rt d ρ' => .ok d (argE [] [some (.im (.str (S (eqs rest))))] ρ')
    | .ex x' ρ' => .ex x' (argE [] [some (.im (.str (S (eqs rest))))] ρ')
    | _ => .er) with
    | .ok d _ => Out.ok d ρ
    | .ex x _ => .ex x ρ
    | .er => .er) = _
  rw [key]
end K98
namespace K98
open PySem PySem.Spec PyProof.Rows L2 Ce
abbrev dC : En → Out Bool := tst (op2 iGt (rd 1) (cst (.int 0)))
abbrev dB : En → SOut := (sCons (sSet 2 (op2 iMod (cl1 (fun ds => opt (kInt ds)) (aC (rd 0) aN)) (rd 1))) (sCons (sSet 0 (rd 1)) (sCons (sSet 1 (rd 2)) sNil)))
theorem dC_run (a b : Nat) (x : Option O) : dC [some (.im (.int a)), some (.im (.int b)), x] = .ok (decide (0 < b)) [some (.im (.int a)), some (.im (.int b)), x] := by
  simp [dC, tst, op2, iGt, rd, cst, ii, opt, Out.bind]
theorem dB_run (a b : Nat) (h : b ≠ 0) (x : Option O) : dB [some (.im (.int a)), some (.im (.int b)), x] = .nx [some (.im (.int b)), some (.im (.int (a % b : Nat))), some (.im (.int (a % b : Nat)))] := by
  have h' : ¬ (b : Int) = 0 := by omega
  have e : (a : Int).fmod b = ((a % b : Nat) : Int) := by
    rw [Int.fmod_eq_emod_of_nonneg _ (by omega)]
    rfl
  simp [dB, sCons, sSet, op2, iMod, cl1, kInt, aC, aN, rd, ii, opt, Out.bind, Out.st, SOut.sq, sNil, h', h, e]
theorem gcd_go : ∀ (k a b fuel : Nat) (x : Option O), b < 2 ^ k → 2 * k + 1 ≤ fuel → ∃ y, whL dC dB fuel [some (.im (.int a)), some (.im (.int b)), x] = .nx [some (.im (.int (Nat.gcd a b : Nat))), some (.im (.int (0 : Nat))), y]
  | k, a, 0, fuel + 1, x, _, _ => ⟨x, by
    rw [whL, dC_run]
    simp [Out.st]⟩
  | 0, a, b + 1, fuel, x, h, _ => absurd h (by simp)
  | k + 1, a, b + 1, fuel + 2, x, h, hf => by
    have e1 : whL dC dB (fuel + 2) [some (.im (.int a)), some (.im (.int (b + 1 : Nat))), x] = whL dC dB (fuel + 1) [some (.im (.int (b + 1 : Nat))), some (.im (.int (a % (b + 1) : Nat))), some (.im (.int (a % (b + 1) : Nat)))] := by
      rw [whL, dC_run]
      simp only [Out.st, Nat.zero_lt_succ, decide_true]
      rw [dB_run _ _ (by omega)]
    rw [e1]
    have hr : a % (b + 1) < b + 1 := Nat.mod_lt _ (by omega)
    have g1 : Nat.gcd a (b + 1) = Nat.gcd (b + 1) (a % (b + 1)) := by
      rw [Nat.gcd_comm, Nat.gcd_rec, Nat.gcd_comm]
    rw [g1]
    generalize a % (b + 1) = r at *
    by_cases z : r = 0
    · subst z
      exact gcd_go k (b + 1) 0 (fuel + 1) _ (Nat.two_pow_pos k) (by omega)
    · have e2 : whL dC dB (fuel + 1) [some (.im (.int (b + 1 : Nat))), some (.im (.int r)), some (.im (.int r))] = whL dC dB fuel [some (.im (.int r)), some (.im (.int ((b + 1) % r : Nat))), some (.im (.int ((b + 1) % r : Nat)))] := by
        rw [whL, dC_run]
        have z' : 0 < r := by omega
        simp only [Out.st, z', decide_true]
        rw [dB_run _ _ z]
      rw [e2]
      have g2 : Nat.gcd (b + 1) r = Nat.gcd r ((b + 1) % r) := by
        rw [Nat.gcd_comm, Nat.gcd_rec, Nat.gcd_comm]
      rw [g2]
      have hs : (b + 1) % r < 2 ^ k := by
        have p2 : 2 ^ (k + 1) = 2 ^ k + 2 ^ k := by omega
        have m1 : (b + 1) % r < r := Nat.mod_lt _ (by omega)
        by_cases q : r ≤ 2 ^ k
        · omega
        · have : (b + 1) % r = b + 1 - r := by
            rw [Nat.mod_eq_sub_mod (by omega), Nat.mod_eq_of_lt (by omega)]
          omega
      exact gcd_go k r ((b + 1) % r) fuel _ hs (by omega)
end K98
namespace K98
open PySem PySem.Spec PyProof.Rows L2 Ce
theorem abs_if (i : Int) : (if i < 0 then -i else i) = (i.natAbs : Int) := by
  split <;> omega
theorem div_run (a b : Int) {k : Nat} (hb : nb b k) (hk : k < 100000000) (ρ : En) : fnM 2 [] m__law_divisor [.int a, .int b] ρ = .ok (.int (Nat.gcd a.natAbs b.natAbs : Nat)) ρ := by
  have lt : b.natAbs < 2 ^ (k + 1) := by
    unfold nb at hb
    have : 2 ^ (k + 1) = 2 ^ k + 2 ^ k := by omega
    have := Nat.two_pow_pos k
    omega
  obtain ⟨y, e⟩ := gcd_go (k + 1) a.natAbs b.natAbs 1000000000 none lt (by omega)
  have s0 : (sSet 0 (cl1 (fun ds => opt (k1 (fun i => .int (if i < 0 then -i else i)) ds)) (aC (rd 0) aN))) [some (.im (.int a)), some (.im (.int b)), none] = .nx [some (.im (.int a.natAbs)), some (.im (.int b)), none] := by
    rw [← abs_if]
    rfl
  have s1 : (sSet 1 (cl1 (fun ds => opt (k1 (fun i => .int (if i < 0 then -i else i)) ds)) (aC (rd 1) aN))) [some (.im (.int a.natAbs)), some (.im (.int b)), none] = .nx [some (.im (.int a.natAbs)), some (.im (.int b.natAbs)), none] := by
    rw [← abs_if b]
    rfl
  refine fn_rt (m := 3) (ρ' := [some (.im (.int (Nat.gcd a.natAbs b.natAbs : Nat))), some (.im (.int (0 : Nat))), y]) ρ rfl ?_
  show b__law_divisor [some (.im (.int a)), some (.im (.int b)), none] = _
  unfold b__law_divisor
  rw [sCons_nx s0, sCons_nx s1]
  refine (sCons_nx e).trans ?_
  rfl
end K98
namespace K98
open PySem PySem.Spec PyProof.Rows L2 Ce
theorem sEqual : PySem.Str.ofString "equal " = S [101, 113, 117, 97, 108, 32] := by decide +kernel
/-- the text of two operators -/
abbrev et (P Q : List (List Rat)) : List Nat := eqs (ot P ++ (32 :: ot Q))
theorem wc_run {P Q : List (List Rat)} {d1 d2 : D} (h1 : OpOf P d1) (h2 : OpOf Q d2) (hP : ∀ p ∈ P, okP p) (hQ : ∀ p ∈ Q, okP p) (lP : P.length ≤ 100) (lQ : Q.length ≤ 100) (ρ : En) :
    fnM 1 [] m_write_certificate [.tup [.str (PySem.Str.ofString "equal"), d1, d2]] ρ = .ok (.str (S (et P Q))) ρ := by
  have w1 := wo_run h1 hP lP
  have w2 := wo_run h2 hQ lQ
  have l1 := ot_len P hP
  have l2 := ot_len Q hQ
  generalize hσ : ([some (.im (.tup [.str (PySem.Str.ofString "equal"), d1, d2])), some (.im (.str (PySem.Str.ofString "equal"))), none, none, none, none] : En) = σ
  have ne : ∀ z : Str, decide (PySem.Str.ofString "equal" = z) = false → tst (op2 sEq (rd 1) (cst (.str z))) σ = .ok false σ := fun z h => by
    subst hσ
    show Out.ok (decide (PySem.Str.ofString "equal" = z)) _ = _
    rw [h]
  have e1 := ne (PySem.Str.ofString "closed") (by decide +kernel)
  have e2 := ne (PySem.Str.ofString "open") (by decide +kernel)
  have e3 := ne (PySem.Str.ofString "recurrence") (by decide +kernel)
  have e4 := ne (PySem.Str.ofString "none") (by decide +kernel)
  have e5 : tst (op2 sEq (rd 1) (cst (.str (PySem.Str.ofString "equal")))) σ = .ok true σ := by
    subst hσ
    show Out.ok (decide (PySem.Str.ofString "equal" = PySem.Str.ofString "equal")) _ = _
    rw [decide_eq_true rfl]
  have i1 : ix (rd 0) (cst (.int 1)) σ = .ok d1 σ := by subst hσ; rfl
  have i2 : ix (rd 0) (cst (.int 2)) σ = .ok d2 σ := by subst hσ; rfl
  have c1 : cl1 (fnM 1 [] m_write_operator) (aC (ix (rd 0) (cst (.int 1))) aN) σ = .ok (.str (S (ot P))) σ := by
    unfold cl1 aC
    rw [i1]
    exact w1 σ
  have c2 : cl1 (fnM 1 [] m_write_operator) (aC (ix (rd 0) (cst (.int 2))) aN) σ = .ok (.str (S (ot Q))) σ := by
    unfold cl1 aC
    rw [i2]
    exact w2 σ
  have key : b_write_certificate [some (.im (.tup [.str (PySem.Str.ofString "equal"), d1, d2])), none, none, none, none, none] = .rt (.str (S (et P Q))) σ := by
    unfold b_write_certificate
    refine (sCons_nx (ρ1 := σ) (by subst hσ; rfl)).trans ?_
    refine (sCons_nx (ρ1 := σ) (by unfold sIf; rw [e1]; rfl)).trans ?_
    refine (sCons_nx (ρ1 := σ) (by unfold sIf; rw [e2]; rfl)).trans ?_
    refine (sCons_nx (ρ1 := σ) (by unfold sIf; rw [e3]; rfl)).trans ?_
    refine (sCons_nx (ρ1 := σ) (by unfold sIf; rw [e4]; rfl)).trans ?_
    refine sCons_rt ?_
    unfold sIf
    rw [e5]
    simp only [Out.st]
    refine sCons_rt ?_
    rw [sEqual, s32]
    have o1 : op2 tAddS (cst (.str (S [101, 113, 117, 97, 108, 32]))) (cl1 (fnM 1 [] m_write_operator) (aC (ix (rd 0) (cst (.int 1))) aN)) σ = .ok (.str (S ([101, 113, 117, 97, 108, 32] ++ ot P))) σ := by
      unfold op2
      simp only [cst, Out.bind]
      rw [c1]
      exact add_S _ _ _ (by simp; omega)
    have o2 : op2 tAddS (op2 tAddS (cst (.str (S [101, 113, 117, 97, 108, 32]))) (cl1 (fnM 1 [] m_write_operator) (aC (ix (rd 0) (cst (.int 1))) aN))) (cst (.str (S [32]))) σ = .ok (.str (S ([101, 113, 117, 97, 108, 32] ++ ot P ++ [32]))) σ := by
      rw [op2, o1]
      simp only [Out.bind, cst]
      exact add_S _ _ _ (by simp; omega)
    unfold sRet
    rw [op2, o2]
    simp only [Out.bind]
    rw [c2]
    simp only
    rw [add_S _ _ _ (by simp; omega)]
    simp only [Out.st]
    congr 2
    simp
  exact fn_rt (m := 6) ρ rfl key
/-- a whole text is read and written back -/
theorem whole_ok (P Q : List (List Rat)) (hP : ∀ p ∈ P, okP p) (hQ : ∀ p ∈ Q, okP p) (lP : P.length ≤ 100) (lQ : Q.length ≤ 100) (nP : P.getLast? ≠ some []) (nQ : Q.getLast? ≠ some []) :
    ∃ d, (∀ ρ, fnM 1 [] m_read_certificate [.str (S (et P Q))] ρ = .ok d ρ) ∧ ∀ ρ, fnM 1 [] m_write_certificate [d] ρ = .ok (.str (S (et P Q))) ρ := by
  obtain ⟨d1, o1, r1⟩ := opr_ok P hP lP nP
  obtain ⟨d2, o2, r2⟩ := opr_ok Q hQ lQ nQ
  have l1 := ot_len P hP
  have l2 := ot_len Q hQ
  have hb : big [] (et P Q) := by unfold big; simp [eqs]; omega
  have hb1 : big eqp (ot P ++ 32 :: ot Q) := by unfold big; simp; omega
  have a1 := r1 eqp (32 :: ot Q) hb1
  have a2 := r2 (eqp ++ ot P ++ [32]) [] (by unfold big; simp; omega)
  rw [List.append_nil] at a2
  exact ⟨_, rc_ok _ (eqp ++ ot P ++ [32] ++ ot Q) hb (by unfold big; simp; omega) (eq_ok a1 (big_a hb1) a2), wc_run o1 o2 hP hQ lP lQ⟩
theorem whole_er1 (u rest : List Nat) (kk : Nat) (hu : Er m_operator_at u kk rest) (hl : (u ++ rest).length ≤ 90000) (ρ : En) : fnM 1 [] m_read_certificate [.str (S (eqs (u ++ rest)))] ρ = .ex ⟨4, [.int ((6 + kk : Nat) : Int)]⟩ ρ := by
  have hb : big [] (eqs (u ++ rest)) := by unfold big; simp [eqs] at hl ⊢; omega
  obtain ⟨p2, r2, q⟩ := hu eqp (by unfold big; simp at hl ⊢; omega)
  exact rc_er (u ++ rest) p2 r2 hb (eq_er1 q) ρ
theorem whole_er2 (P : List (List Rat)) (hP : ∀ p ∈ P, okP p) (lP : P.length ≤ 100) (nP : P.getLast? ≠ some []) (u rest : List Nat) (kk : Nat) (hu : Er m_operator_at u kk rest) (hl : (u ++ rest).length ≤ 90000) (ρ : En) :
    fnM 1 [] m_read_certificate [.str (S (eqs (ot P ++ (32 :: (u ++ rest)))))] ρ = .ex ⟨4, [.int ((6 + (ot P).length + 1 + kk : Nat) : Int)]⟩ ρ := by
  obtain ⟨d1, o1, r1⟩ := opr_ok P hP lP nP
  have l1 := ot_len P hP
  have hb : big [] (eqs (ot P ++ 32 :: (u ++ rest))) := by unfold big; simp [eqs] at hl ⊢; omega
  have hb1 : big eqp (ot P ++ 32 :: (u ++ rest)) := by unfold big; simp at hl ⊢; omega
  have a1 := r1 eqp (32 :: (u ++ rest)) hb1
  obtain ⟨p2, r2, q⟩ := hu (eqp ++ ot P ++ [32]) (by unfold big; simp at hl ⊢; omega)
  have e : (eqp ++ ot P ++ [32]).length + kk = 6 + (ot P).length + 1 + kk := by simp; omega
  rw [e] at q
  exact rc_er _ p2 r2 hb (eq_er2 a1 (big_a hb1) q) ρ
/-! ### errors, one level up -/
theorem lift_op (L : List (List Rat)) (hL : ∀ p ∈ L, okP p) (hl : L.length < 900) (u rest : List Nat) (kk : Nat) (hu : Er m_poly_at u kk rest) (ne : ¬ (ld (L.map pt) ++ (u ++ rest)).take 1 = [62]) : Er m_operator_at (60 :: (ld (L.map pt) ++ u)) (1 + (ld (L.map pt)).length + kk) rest := by
  intro pre hb
  obtain ⟨ds, a, _⟩ := all_poly L hL
  have e : 60 :: (ld (L.map pt) ++ u) ++ rest = 60 :: (ld (L.map pt) ++ (u ++ rest)) := by simp
  rw [e] at hb ⊢
  obtain ⟨p', r', r, q⟩ := list_er a (by rw [List.length_map]; exact hl) hu hb ne
  exact ⟨_, _, opr_er q⟩
theorem lift_poly (B : List Rat) (hB : ∀ x ∈ B, okq x) (hl : B.length < 900) (u rest : List Nat) (kk : Nat) (hu : Er m_fraction_at u kk rest) (ne : ¬ (ld (B.map ft) ++ (u ++ rest)).take 1 = [93]) : Er m_poly_at (91 :: (ld (B.map ft) ++ u)) (1 + (ld (B.map ft)).length + kk) rest := by
  intro pre hb
  have e : 91 :: (ld (B.map ft) ++ u) ++ rest = 91 :: (ld (B.map ft) ++ (u ++ rest)) := by simp
  rw [e] at hb ⊢
  obtain ⟨p', r', r, q⟩ := list_er (all_fr B hB) (by rw [List.length_map]; exact hl) hu hb ne
  exact ⟨_, _, poly_er q⟩
theorem lift_bad (B : List Rat) (hB : ∀ x ∈ B, okq x) (hl : B.length < 900) (rest : List Nat) (n1 : ¬ rest.take 1 = [32]) (n2 : ¬ rest.take 1 = [93]) (n3 : ¬ rest.take 1 = [47]) : Er m_poly_at (91 :: (ld (B.map ft) ++ [48])) (1 + (ld (B.map ft)).length + 1) rest := by
  intro pre hb
  have e : 91 :: (ld (B.map ft) ++ [48]) ++ rest = 91 :: (ld (B.map ft) ++ ([48] ++ rest)) := by simp
  rw [e] at hb ⊢
  have ne : ¬ (ld (B.map ft) ++ ([48] ++ rest)).take 1 = [93] := by
    cases B with
    | nil => simp [ld]
    | cons x B =>
      obtain ⟨c, r, ex, hc⟩ := ft_head x (hB x List.mem_cons_self)
      simp [ld, ex]
      rcases hc with rfl | hc
      · omega
      · unfold dig at hc; omega
  obtain ⟨p', r', r, q⟩ := list_bad (all_fr B hB) (by rw [List.length_map]; exact hl) (u := [48]) (fun pre hb => zero_ok pre rest hb n3) n1 n2 hb ne
  exact ⟨_, _, poly_er q⟩
/-- poly_at at a sign that opens no polynomial -/
theorem no_poly (rest : List Nat) (ne : rest.take 1 ≠ [91]) : Er m_poly_at [] 0 rest := by
  intro pre hb
  obtain ⟨r', q⟩ := mL_ex (bL_noopen (k := 5) (c := 93) (m := m_fraction_at) hb ne)
  exact ⟨_, _, poly_er q⟩
/-- the error may be told of a longer text -/
theorem Er.ext {m : En → Out D} {t v rest : List Nat} {k : Nat} (h : Er m t k (v ++ rest)) : Er m (t ++ v) k rest := by
  intro pre hb
  rw [List.append_assoc] at hb ⊢
  exact h pre hb
end K98
namespace K98
open PySem PySem.Spec PyProof.Rows L2 Ce
theorem kLen_S (u : List Nat) (h : u.length ≤ 100000) : kLen [.str (S u)] = some (.int (u.length : Nat)) := by
  have z : (S u).length ≤ sizeLine := by rw [S_len, sizeLine_eq]; omega
  unfold kLen
  simp only [z, decide_true, if_true]
  rfl
/-- the fraction of two drawn numbers -/
structure Nd (num den : Int) : Prop where
  n : num.natAbs ≤ 20
  d : 1 ≤ den ∧ den ≤ 6
theorem sg {num den : Int} (h : Nd num den) : sgcd num den = ((Nat.gcd num.natAbs den.natAbs : Nat) : Int) := by
  unfold sgcd
  rw [if_neg (by have := h.d; omega)]
theorem nd_num {num den : Int} (h : Nd num den) : num.fdiv ((Nat.gcd num.natAbs den.natAbs : Nat) : Int) = (Rat.divInt num den).num := by
  rw [← sg h]
  exact frac_num (by have := h.d; omega)
theorem nd_den {num den : Int} (h : Nd num den) : den.fdiv ((Nat.gcd num.natAbs den.natAbs : Nat) : Int) = ((Rat.divInt num den).den : Int) := by
  rw [← sg h]
  exact frac_den (by have := h.d; omega)
theorem nd_okx {num den : Int} (h : Nd num den) : okx (Rat.divInt num den) ∧ (Rat.divInt num den).num.natAbs ≤ 20 := by
  have e1 := nd_num h
  have e2 := nd_den h
  have g0 : 0 < Nat.gcd num.natAbs den.natAbs := Nat.gcd_pos_of_pos_right _ (by have := h.d; omega)
  have h1 : ((Nat.gcd num.natAbs den.natAbs : Nat) : Int) ∣ num := Int.ofNat_dvd_left.mpr (Nat.gcd_dvd_left _ _)
  have h2 : ((Nat.gcd num.natAbs den.natAbs : Nat) : Int) ∣ den := Int.ofNat_dvd_left.mpr (Nat.gcd_dvd_right _ _)
  generalize Nat.gcd num.natAbs den.natAbs = g at *
  obtain ⟨c, ec⟩ := h1
  obtain ⟨d, ed⟩ := h2
  have q1 : num.fdiv (g : Int) = c := by rw [ec, Int.mul_comm]; exact Int.mul_fdiv_cancel c (by omega)
  have q2 : den.fdiv (g : Int) = d := by rw [ed, Int.mul_comm]; exact Int.mul_fdiv_cancel d (by omega)
  have n1 : c.natAbs ≤ num.natAbs := by rw [ec, Int.natAbs_mul]; exact Nat.le_mul_of_pos_left _ (by omega)
  have n2 : d.natAbs ≤ den.natAbs := by rw [ed, Int.natAbs_mul]; exact Nat.le_mul_of_pos_left _ (by omega)
  have a := h.n
  have b := h.d
  refine ⟨⟨by rw [← e1, q1]; omega, ?_⟩, by rw [← e1, q1]; omega⟩
  have : ((Rat.divInt num den).den : Int).natAbs ≤ 6 := by rw [← e2, q2]; omega
  rw [Int.natAbs_natCast] at this
  exact this
theorem nd_one {num den : Int} (h : Nd num den) : den = ((Nat.gcd num.natAbs den.natAbs : Nat) : Int) ↔ (Rat.divInt num den).den = 1 := by
  have e2 := nd_den h
  have g0 : 0 < Nat.gcd num.natAbs den.natAbs := Nat.gcd_pos_of_pos_right _ (by have := h.d; omega)
  have h2 : ((Nat.gcd num.natAbs den.natAbs : Nat) : Int) ∣ den := Int.ofNat_dvd_left.mpr (Nat.gcd_dvd_right _ _)
  generalize Nat.gcd num.natAbs den.natAbs = g at *
  obtain ⟨d, ed⟩ := h2
  have q2 : den.fdiv (g : Int) = d := by rw [ed, Int.mul_comm]; exact Int.mul_fdiv_cancel d (by omega)
  rw [q2] at e2
  constructor
  · intro z
    have : (g : Int) * d = g * 1 := by rw [← ed, Int.mul_one]; exact z
    have := Int.eq_of_mul_eq_mul_left (by omega) this
    omega
  · intro z
    have : d = 1 := by omega
    rw [ed, this, Int.mul_one]
theorem dv_ok {num den : Int} (h : Nd num den) : divOk ((Nat.gcd num.natAbs den.natAbs : Nat) : Int) = true := by
  have g0 : 0 < Nat.gcd num.natAbs den.natAbs := Nat.gcd_pos_of_pos_right _ (by have := h.d; omega)
  have l : Nat.gcd num.natAbs den.natAbs ≤ den.natAbs := Nat.le_of_dvd (by have := h.d; omega) (Nat.gcd_dvd_right _ _)
  exact divOk_nb (b := 3) (by omega) (by unfold nb; rw [Int.natAbs_natCast]; have := h.d; omega) (by omega)
theorem shown_run {num den : Int} (h : Nd num den) (ρ : En) : fnM 2 [] m__law_shown [.int num, .int den] ρ = .ok (.str (S (ft (Rat.divInt num den)))) ρ := by
  have dr := fun ρ => div_run num den (k := 3) (by unfold nb; have := h.d; omega) (by omega) ρ
  obtain ⟨ox, _⟩ := nd_okx h
  have e1 := nd_num h
  have e2 := nd_den h
  have on := nd_one h
  have dk := dv_ok h
  generalize hx : Rat.divInt num den = x at *
  have k1 := kStr_run ox.q.1
  have k2 := kStr_run (i := (x.den : Int)) (by rw [Int.natAbs_natCast]; exact ox.q.2)
  have l1 := wt_len ox.q.1
  have l2 := wt_len (i := (x.den : Int)) (by rw [Int.natAbs_natCast]; exact ox.q.2)
  generalize Nat.gcd num.natAbs den.natAbs = g at *
  generalize hσ : ([some (.im (.int num)), some (.im (.int den)), some (.im (.int (g : Nat)))] : En) = σ
  have q1 : cl1 (fun ds => opt (kStr ds)) (aC (op2 iDiv (rd 0) (rd 2)) aN) σ = .ok (.str (S (wt x.num))) σ := by
    have e : op2 iDiv (rd 0) (rd 2) σ = .ok (.int x.num) σ := by
      subst hσ
      show opt (if divOk (g : Int) then some (D.int (num.fdiv (g : Int))) else none) _ = _
      rw [if_pos dk, e1]
      rfl
    unfold cl1 aC
    rw [e]
    simp only [Out.bind, aN, k1, opt]
  have q2 : cl1 (fun ds => opt (kStr ds)) (aC (op2 iDiv (rd 1) (rd 2)) aN) σ = .ok (.str (S (wt (x.den : Nat)))) σ := by
    have e : op2 iDiv (rd 1) (rd 2) σ = .ok (.int (x.den : Nat)) σ := by
      subst hσ
      show opt (if divOk (g : Int) then some (D.int (den.fdiv (g : Int))) else none) _ = _
      rw [if_pos dk, e2]
      rfl
    unfold cl1 aC
    rw [e]
    simp only [Out.bind, aN, k2, opt]
  have t : tst (op2 sEq (rd 1) (rd 2)) σ = .ok (decide (den = (g : Int))) σ := by subst hσ; rfl
  have key : b__law_shown [some (.im (.int num)), some (.im (.int den)), none] = .rt (.str (S (ft x))) σ := by
    unfold b__law_shown
    refine (sCons_nx (ρ1 := σ) ?_).trans ?_
    · unfold sSet cl1
      show Out.st (fnM 2 [] m__law_divisor [.int num, .int den] _) _ = _
      rw [dr]
      exact congrArg SOut.nx hσ
    by_cases hd : x.den = 1
    · refine sCons_rt ?_
      unfold sIf
      rw [t, decide_eq_true (on.mpr hd)]
      simp only [Out.st]
      refine sCons_rt ?_
      unfold sRet
      rw [q1, ft, if_pos hd, List.append_nil]
      rfl
    · refine (sCons_nx (ρ1 := σ) ?_).trans ?_
      · unfold sIf
        rw [t, decide_eq_false (fun z => hd (on.mp z))]
        rfl
      · refine sCons_rt ?_
        rw [s47]
        have o1 : op2 tAddS (cl1 (fun ds => opt (kStr ds)) (aC (op2 iDiv (rd 0) (rd 2)) aN)) (cst (.str (S [47]))) σ = .ok (.str (S (wt x.num ++ [47]))) σ := by
          rw [op2, q1]
          simp only [Out.bind, cst]
          exact add_S _ _ _ (by simp; omega)
        unfold sRet
        rw [op2, o1]
        simp only [Out.bind]
        rw [q2]
        simp only
        rw [add_S _ _ _ (by simp; omega), ft, if_neg hd, wt_nat x.den_nz]
        simp only [Out.st]
        congr 2
        simp
  exact fn_rt (m := 3) ρ rfl key
end K98
namespace K98
open PySem PySem.Spec PyProof.Rows L2 Ce
/-! ### texts of fractions that are not allowed: the errors -/
def SpE (u : List Nat) (k : Nat) : Prop := ∀ (B : List Rat) (rest : List Nat), (∀ x ∈ B, okq x) → B.length < 800 → sep rest → (B = [] → u = [] → rest.take 1 = [32]) → Er m_poly_at (91 :: (ld (B.map ft) ++ u)) (1 + (ld (B.map ft)).length + k) rest
theorem ld_ne (B : List Rat) (hB : ∀ x ∈ B, okq x) (w : List Nat) (h : B = [] → ¬ w.take 1 = [93]) : ¬ (ld (B.map ft) ++ w).take 1 = [93] := by
  cases B with
  | nil => simpa [ld] using h rfl
  | cons x B =>
    obtain ⟨c, r, ex, hc⟩ := ft_head x (hB x List.mem_cons_self)
    simp [ld, ex]
    rcases hc with rfl | hc
    · omega
    · unfold dig at hc; omega
theorem sp_fr {u : List Nat} {k c : Nat} {r : List Nat} (e : u = c :: r) (hc : c = 45 ∨ dig c) (h : ∀ rest, sep rest → Er m_fraction_at u k rest) : SpE u k := fun B rest hB hl hs hb => lift_poly B hB (by omega) u rest k (h rest hs) (ld_ne B hB _ fun _ => by
  rw [e]
  simp
  rcases hc with rfl | hc
  · omega
  · unfold dig at hc; omega)
theorem wt_head {i : Int} (h : i.natAbs < 200) : ∃ c r, wt i = c :: r ∧ (c = 45 ∨ dig c) := by
  have hq : okq ((i : Int) : Rat) := ⟨h, by show (1 : Nat) < 200; omega⟩
  obtain ⟨c, r, e, hc⟩ := ft_head _ hq
  have e1 : ft ((i : Int) : Rat) = wt i := by
    unfold ft
    rw [if_pos (show ((i : Int) : Rat).den = 1 from rfl), List.append_nil]
    rfl
  exact ⟨c, r, by rw [← e1]; exact e, hc⟩
theorem dgo : dg 1 = [49] := by decide +kernel
/-- the fraction times a factor -/
theorem sp_0 {x : Rat} (hx : okx x) (hn : x.num.natAbs ≤ 20) {f : Nat} (hf : 2 ≤ f ∧ f ≤ 5) : SpE (wt (x.num * f) ++ 47 :: dg (x.den * f)) ((wt (x.num * f) ++ 47 :: dg (x.den * f)).length) := by
  have b1 : (x.num * f).natAbs < 200 := by
    rw [Int.natAbs_mul]
    have : x.num.natAbs * (f : Int).natAbs ≤ 20 * 5 := Nat.mul_le_mul hn (by omega)
    omega
  have b2 : x.den * f < 200 := by
    have : x.den * f ≤ 6 * 5 := Nat.mul_le_mul hx.2 hf.2
    omega
  have nz := x.den_nz
  have b3 : x.den * f ≠ 0 := Nat.mul_ne_zero nz (by omega)
  have b4 : (Rat.divInt (x.num * f) ((x.den * f : Nat) : Int)).den ≠ x.den * f := by
    have e : Rat.divInt (x.num * f) ((x.den * f : Nat) : Int) = x := by
      rw [Int.natCast_mul, Rat.divInt_mul_right (by omega : (f : Int) ≠ 0)]
      exact Rat.num_divInt_den x
    rw [e]
    have : x.den * 2 ≤ x.den * f := Nat.mul_le_mul_left _ hf.1
    omega
  obtain ⟨c, r, e, hc⟩ := wt_head b1
  refine sp_fr (c := c) (r := r ++ 47 :: dg (x.den * f)) (by rw [e]; rfl) hc fun rest hs => ?_
  have z := er_slash (x.num * f) b1 (x.den * f) b3 b2 (.inr b4) rest hs
  have el : (wt (x.num * f) ++ 47 :: dg (x.den * f)).length = (wt (x.num * f)).length + 1 + (dg (x.den * f)).length := by simp; omega
  rw [el]
  exact z
/-- over 1 -/
theorem sp_1 {i : Int} (hi : i.natAbs < 200) : SpE (wt i ++ [47, 49]) ((wt i).length + 2) := by
  obtain ⟨c, r, e, hc⟩ := wt_head hi
  refine sp_fr (c := c) (r := r ++ [47, 49]) (by rw [e]; rfl) hc fun rest hs => ?_
  have z := er_slash i hi 1 (by omega) (by omega) (.inl rfl) rest hs
  rw [dgo] at z
  exact z
/-- a leading zero -/
theorem sp_2n (v : List Nat) : SpE ([45, 48] ++ v) 1 := by
  refine sp_fr (c := 45) (r := 48 :: v) rfl (.inl rfl) fun rest hs => ?_
  have z := er_neg0 ((48 :: v) ++ rest) (by simp)
  have z2 := z.ext
  exact z2
theorem sp_2p {x : Rat} (hx : okq x) (hp : 0 < x.num) : SpE (48 :: ft x) 1 := by
  intro B rest hB hl hs hb
  obtain ⟨c, r, e, hc, _⟩ := dg_ok (n := x.num.toNat) (by omega) (by have := hx.1; omega)
  have e2 : ∃ r2, ft x = c :: r2 := by
    unfold ft wt
    rw [if_neg (by omega), if_pos hp, e]
    exact ⟨_, rfl⟩
  obtain ⟨r2, e2⟩ := e2
  have z := lift_bad B hB (by omega) (ft x ++ rest) (by rw [e2]; simp; omega) (by rw [e2]; simp; omega) (by rw [e2]; simp; omega)
  have z2 := z.ext
  have e3 : 91 :: (ld (B.map ft) ++ [48]) ++ ft x = 91 :: (ld (B.map ft) ++ (48 :: ft x)) := by simp
  rw [e3] at z2
  exact z2
theorem ld_snoc (t : List Nat) : ∀ B : List (List Nat), ld (B ++ [t]) = ld B ++ (t ++ [32])
  | [] => by simp [ld]
  | b :: B => by simp [ld, ld_snoc t B]
theorem cut_tl (c : Nat) (r : List Nat) : cutS (S (c :: r)) (some 1) none = S r := by
  unfold cutS
  rw [show (1 : Int) = ((1 : Nat) : Int) from rfl, HT.sIx_nat, HT.sIx_none, S_len, List.length_cons]
  have e1 : min 1 (r.length + 1) = 1 := by omega
  rw [e1]
  show S _ = _
  rw [S_inj]
  have e2 : (S (c :: r)).cps.toList = c :: r := by simp [S]
  rw [e2]
  simp
/-- two spaces -/
theorem sp_4 {x : Rat} (hx : okq x) : SpE (ft x ++ [32, 32]) ((ft x).length + 1) := by
  intro B rest hB hl hs hb
  have hB2 : ∀ y ∈ B ++ [x], okq y := by
    intro y hy
    rcases List.mem_append.mp hy with h | h
    · exact hB y h
    · rw [List.mem_singleton.mp h]; exact hx
  have z := lift_poly (B ++ [x]) hB2 (by simp; omega) [] (32 :: rest) 0 (er_blank (32 :: rest) 32 rfl (.inl rfl)) (ld_ne _ hB2 _ fun h => by simp at h)
  rw [List.map_append, List.map_cons, List.map_nil, ld_snoc] at z
  have z2 := Er.ext (t := 91 :: (ld (B.map ft) ++ (ft x ++ [32]) ++ [])) (v := [32]) z
  have e : 91 :: (ld (B.map ft) ++ (ft x ++ [32]) ++ []) ++ [32] = 91 :: (ld (B.map ft) ++ (ft x ++ [32, 32])) := by simp
  have el : 1 + (ld (B.map ft) ++ (ft x ++ [32])).length + 0 = 1 + (ld (B.map ft)).length + ((ft x).length + 1) := by simp; omega
  rw [e, el] at z2
  exact z2
/-- over 0 -/
theorem sp_5 {i : Int} (hi : i.natAbs < 200) : SpE (wt i ++ [47, 48]) ((wt i).length + 1) := by
  obtain ⟨c, r, e, hc⟩ := wt_head hi
  refine sp_fr (c := c) (r := r ++ [47, 48]) (by rw [e]; rfl) hc fun rest hs => ?_
  have z := (er_over0 i hi (48 :: rest) rfl).ext (v := [48])
  rw [List.append_assoc] at z
  exact z
/-- left out -/
theorem sp_6 : SpE [] 0 := by
  intro B rest hB hl hs hb
  refine lift_poly B hB (by omega) [] rest 0 ?_ (ld_ne B hB _ fun h => by rw [List.nil_append, hb h rfl]; simp)
  rcases hs with h | h
  · exact er_blank rest 32 h (.inl rfl)
  · exact er_blank rest 93 h (.inr rfl)
end K98
namespace K98
open PySem PySem.Spec PyProof.Rows L2 Ce
theorem ret2 {A B : En → Out D} {a b : D} {σ : En} (ha : A σ = .ok a σ) (hb : B σ = .ok b σ) : sRet (fz (nLst (aC A (aC B aN)))) σ = .rt (.lst [a, b]) σ := by
  have z : decide (([a, b] : List D).length ≤ sizeLine) = true := by rw [sizeLine_eq]; rfl
  simp only [sRet, fz, nLst, aC, ha, hb, aN, Out.bind, z, if_true, Out.st]
theorem str_of {A : En → Out D} {i : Int} {σ : En} (hi : i.natAbs < 200) (h : A σ = .ok (.int i) σ) : cl1 (fun ds => opt (kStr ds)) (aC A aN) σ = .ok (.str (S (wt i))) σ := by
  simp only [cl1, aC, aN, h, Out.bind, kStr_run hi, opt]
theorem len_of {A : En → Out D} {u : List Nat} {σ : En} (hu : u.length ≤ 100000) (h : A σ = .ok (.str (S u)) σ) : cl1 (fun ds => opt (kLen ds)) (aC A aN) σ = .ok (.int (u.length : Nat)) σ := by
  simp only [cl1, aC, aN, h, Out.bind, kLen_S u hu, opt]
theorem add_of {A B : En → Out D} {u v : List Nat} {σ : En} (l : u.length + v.length ≤ 100000) (ha : A σ = .ok (.str (S u)) σ) (hb : B σ = .ok (.str (S v)) σ) : op2 tAddS A B σ = .ok (.str (S (u ++ v))) σ := by
  rw [op2, ha]
  simp only [Out.bind]
  rw [hb]
  exact add_S u v σ l
theorem iadd_of {A B : En → Out D} {i j : Int} {σ : En} (ha : A σ = .ok (.int i) σ) (hb : B σ = .ok (.int j) σ) : op2 iAdd A B σ = .ok (.int (i + j)) σ := by
  rw [op2, ha]
  simp only [Out.bind]
  rw [hb]
  rfl
theorem sIf_t {c : En → Out Bool} {f g : En → SOut} {σ : En} (h : c σ = .ok true σ) : sIf c f g σ = f σ := by
  unfold sIf
  rw [h]
  rfl
theorem sIf_f {c : En → Out Bool} {f g : En → SOut} {σ : En} (h : c σ = .ok false σ) : sIf c f g σ = g σ := by
  unfold sIf
  rw [h]
  rfl
theorem s47_1 : PySem.Str.ofString "/1" = S [47, 49] := by decide +kernel
theorem s47_0 : PySem.Str.ofString "/0" = S [47, 48] := by decide +kernel
theorem s45_0 : PySem.Str.ofString "-0" = S [45, 48] := by decide +kernel
theorem s32_2 : PySem.Str.ofString "  " = S [32, 32] := by decide +kernel
theorem s_no : PySem.Str.ofString "" = S [] := by decide +kernel
abbrev pE (c : Nat) (num den : Int) (f : Nat) (t : List Nat) (g : Nat) (x : Option O) : En := [some (.im (.int c)), some (.im (.int num)), some (.im (.int den)), some (.im (.int f)), some (.im (.str (S t))), some (.im (.int (g : Nat))), x]
theorem spoilt_run {c f : Nat} {num den : Int} (h : Nd num den) (hc : c ≤ 6) (hf : 2 ≤ f ∧ f ≤ 5) (hn : num ≠ 0) : ∃ u k, (∀ ρ, fnM 4 [] m__law_spoilt [.int c, .int num, .int den, .int f] ρ = .ok (.lst [.str (S u), .int (k : Nat)]) ρ) ∧ u.length ≤ 30 ∧ SpE u k ∧ (c < 6 → u ≠ []) := by
  have dr := fun ρ => div_run num den (k := 3) (by unfold nb; have := h.d; omega) (by omega) ρ
  have sh := shown_run h
  obtain ⟨ox, on⟩ := nd_okx h
  have e1 := nd_num h
  have e2 := nd_den h
  have dk := dv_ok h
  have hn20 := h.n
  have sgn : (0 < num ↔ 0 < (Rat.divInt num den).num) := by
    rw [← e1]
    have g0 : 0 < Nat.gcd num.natAbs den.natAbs := Nat.gcd_pos_of_pos_right _ (by have := h.d; omega)
    have h1 : ((Nat.gcd num.natAbs den.natAbs : Nat) : Int) ∣ num := Int.ofNat_dvd_left.mpr (Nat.gcd_dvd_left _ _)
    generalize Nat.gcd num.natAbs den.natAbs = g at *
    obtain ⟨q, eq⟩ := h1
    have q1 : num.fdiv (g : Int) = q := by rw [eq, Int.mul_comm]; exact Int.mul_fdiv_cancel q (by omega)
    rw [q1]
    constructor
    · intro z
      rw [eq] at z
      refine Classical.byContradiction fun w => ?_
      have := Int.mul_le_mul_of_nonneg_left (show q ≤ 0 by omega) (show (0 : Int) ≤ g by omega)
      omega
    · intro z
      rw [eq]
      exact Int.mul_pos (by omega) z
  generalize hx : Rat.divInt num den = x at *
  have fl := ft_len ox.q
  have wl := wt_len (i := num) (by omega)
  generalize hg : Nat.gcd num.natAbs den.natAbs = g at *
  -- the head
  have key : ∀ u k σ', (∀ d, d = D.lst [.str (S u), .int (k : Nat)] → b__law_spoilt [some (.im (.int c)), some (.im (.int num)), some (.im (.int den)), some (.im (.int f)), none, none, none] = .rt d σ') → ∀ ρ, fnM 4 [] m__law_spoilt [.int c, .int num, .int den, .int f] ρ = .ok (.lst [.str (S u), .int (k : Nat)]) ρ := fun u k σ' q ρ => fn_rt (m := 7) ρ rfl (q _ rfl)
  have head : ∀ {R : SOut} {b : En → SOut}, b__law_spoilt = sCons (sSet 4 (cl1 (fnM 2 [] m__law_shown) (aC (rd 1) (aC (rd 2) aN)))) (sCons (sSet 5 (cl1 (fnM 2 [] m__law_divisor) (aC (rd 1) (aC (rd 2) aN)))) b) → b (pE c num den f (ft x) g none) = R → b__law_spoilt [some (.im (.int c)), some (.im (.int num)), some (.im (.int den)), some (.im (.int f)), none, none, none] = R := by
    intro R b eb q
    rw [eb]
    refine (sCons_nx (ρ1 := [some (.im (.int c)), some (.im (.int num)), some (.im (.int den)), some (.im (.int f)), some (.im (.str (S (ft x)))), none, none]) ?_).trans ?_
    · unfold sSet cl1
      show Out.st (fnM 2 [] m__law_shown [.int num, .int den] _) _ = _
      rw [sh]
      rfl
    refine (sCons_nx (ρ1 := pE c num den f (ft x) g none) ?_).trans q
    unfold sSet cl1
    show Out.st (fnM 2 [] m__law_divisor [.int num, .int den] _) _ = _
    rw [dr]
    rfl
  have r1 : ∀ y, rd 1 (pE c num den f (ft x) g y) = .ok (.int num) (pE c num den f (ft x) g y) := fun y => rfl
  have r4 : ∀ y, rd 4 (pE c num den f (ft x) g y) = .ok (.str (S (ft x))) (pE c num den f (ft x) g y) := fun y => rfl
  have cs : ∀ (u : List Nat) y, cst (.str (S u)) (pE c num den f (ft x) g y) = .ok (.str (S u)) (pE c num den f (ft x) g y) := fun _ _ => rfl
  have ci : ∀ (i : Int) y, cst (.int i) (pE c num den f (ft x) g y) = .ok (.int i) (pE c num den f (ft x) g y) := fun _ _ => rfl
  rcases (by omega : c = 0 ∨ c = 1 ∨ c = 2 ∨ c = 3 ∨ c = 4 ∨ c = 5 ∨ c = 6) with rfl | rfl | rfl | rfl | rfl | rfl | rfl
  · have b1 : (x.num * f).natAbs < 200 := by
      rw [Int.natAbs_mul]
      have : x.num.natAbs * (f : Int).natAbs ≤ 20 * 5 := Nat.mul_le_mul on (by omega)
      omega
    have b2 : x.den * f < 200 := by
      have : x.den * f ≤ 6 * 5 := Nat.mul_le_mul ox.2 hf.2
      omega
    have w1 := wt_len b1
    have w2 := wt_len (i := ((x.den * f : Nat) : Int)) (by omega)
    have nz : x.den * f ≠ 0 := Nat.mul_ne_zero x.den_nz (by omega)
    rw [wt_nat nz] at w2
    have m1 : op2 iMul (op2 iDiv (rd 1) (rd 5)) (rd 3) (pE 0 num den f (ft x) g none) = .ok (.int (x.num * f)) (pE 0 num den f (ft x) g none) := by
      have d1 : op2 iDiv (rd 1) (rd 5) (pE 0 num den f (ft x) g none) = .ok (.int x.num) (pE 0 num den f (ft x) g none) := by
        show opt (if divOk (g : Int) then some (D.int (num.fdiv (g : Int))) else none) _ = _
        rw [if_pos dk, e1]
        rfl
      rw [op2, d1]
      simp only [Out.bind]
      show opt (if mulOk x.num (f : Int) then some (D.int (x.num * f)) else none) _ = _
      rw [if_pos (mulOk_nb (a := 5) (b := 3) (by unfold nb; omega) (by unfold nb; omega) (by omega))]
      rfl
    have m2 : op2 iMul (op2 iDiv (rd 2) (rd 5)) (rd 3) (pE 0 num den f (ft x) g none) = .ok (.int ((x.den * f : Nat) : Int)) (pE 0 num den f (ft x) g none) := by
      have d1 : op2 iDiv (rd 2) (rd 5) (pE 0 num den f (ft x) g none) = .ok (.int x.den) (pE 0 num den f (ft x) g none) := by
        show opt (if divOk (g : Int) then some (D.int (den.fdiv (g : Int))) else none) _ = _
        rw [if_pos dk, e2]
        rfl
      rw [op2, d1]
      simp only [Out.bind]
      show opt (if mulOk (x.den : Int) (f : Int) then some (D.int ((x.den : Int) * f)) else none) _ = _
      rw [if_pos (mulOk_nb (a := 3) (b := 3) (by unfold nb; have := ox.2; omega) (by unfold nb; omega) (by omega)), Int.natCast_mul]
      rfl
    have t1 := add_of (by rw [wt_nat nz, List.length_append]; simp only [List.length_cons, List.length_nil]; omega) (add_of (by simp; omega) (str_of b1 m1) (cs [47] none)) (str_of (by omega) m2)
    rw [wt_nat nz, List.append_assoc] at t1
    refine ⟨_, _, key _ _ (pE 0 num den f (ft x) g (some (.im (.str (S (wt (x.num * f) ++ ([47] ++ dg (x.den * f)))))))) fun d hd => ?_, ?_, sp_0 ox on hf, fun _ z => by simp at z⟩
    · subst hd
      refine head rfl ?_
      refine sCons_rt ?_
      refine (sIf_t rfl).trans ?_
      rw [s47]
      refine (sCons_nx (ρ1 := pE 0 num den f (ft x) g (some (.im (.str (S (wt (x.num * f) ++ ([47] ++ dg (x.den * f)))))))) ?_).trans ?_
      · unfold sSet
        rw [t1]
        rfl
      · refine sCons_rt ?_
        refine ret2 rfl ?_
        exact len_of (by simp; omega) rfl
    · simp
      omega
  · refine ⟨wt num ++ [47, 49], (wt num).length + 2, key _ _ (pE 1 num den f (ft x) g none) fun d hd => ?_, ?_, sp_1 (by omega), fun _ z => by simp at z⟩
    · subst hd
      refine head rfl ?_
      refine (sCons_nx (ρ1 := pE 1 num den f (ft x) g none) rfl).trans ?_
      refine sCons_rt ?_
      refine (sIf_t rfl).trans ?_
      refine sCons_rt ?_
      rw [s47_1]
      refine ret2 (add_of (by simp; omega) (str_of (by omega) (r1 none)) (cs _ none)) ?_
      exact iadd_of (len_of (by omega) (str_of (by omega) (r1 none))) (ci 2 none)
    · simp
      omega
  · by_cases hp : num < 0
    · obtain ⟨c, r, e, _⟩ := ft_head x ox.q
      refine ⟨[45, 48] ++ r, 1, key _ _ (pE 2 num den f (ft x) g none) fun d hd => ?_, ?_, sp_2n r, fun _ z => by simp at z⟩
      · subst hd
        refine head rfl ?_
        refine (sCons_nx (ρ1 := pE 2 num den f (ft x) g none) rfl).trans ?_
        refine (sCons_nx (ρ1 := pE 2 num den f (ft x) g none) rfl).trans ?_
        refine sCons_rt ?_
        refine (sIf_t rfl).trans ?_
        refine sCons_rt ?_
        unfold sIf
        have t : tst (op2 iLt (rd 1) (cst (.int 0))) (pE 2 num den f (ft x) g none) = .ok (decide (num < 0)) (pE 2 num den f (ft x) g none) := rfl
        rw [t, decide_eq_true hp]
        simp only [Out.st]
        refine sCons_rt ?_
        rw [s45_0]
        refine ret2 (add_of (by rw [e] at fl; simp at fl ⊢; omega) (cs _ none) ?_) (ci 1 none)
        show opt (if decide ((S (ft x)).length ≤ sizeLine) then some (D.str (cutS (S (ft x)) (some 1) none)) else none) _ = _
        rw [if_pos (by rw [decide_eq_true_iff, S_len, sizeLine_eq]; omega), e, cut_tl]
        rfl
      · rw [e] at fl
        simp at fl ⊢
        omega
    · refine ⟨48 :: ft x, 1, key _ _ (pE 2 num den f (ft x) g none) fun d hd => ?_, ?_, sp_2p ox.q (by rw [← sgn]; omega), fun _ z => by simp at z⟩
      · subst hd
        refine head rfl ?_
        refine (sCons_nx (ρ1 := pE 2 num den f (ft x) g none) rfl).trans ?_
        refine (sCons_nx (ρ1 := pE 2 num den f (ft x) g none) rfl).trans ?_
        refine sCons_rt ?_
        refine (sIf_t rfl).trans ?_
        refine (sCons_nx (ρ1 := pE 2 num den f (ft x) g none) ?_).trans ?_
        · unfold sIf
          have t : tst (op2 iLt (rd 1) (cst (.int 0))) (pE 2 num den f (ft x) g none) = .ok (decide (num < 0)) (pE 2 num den f (ft x) g none) := rfl
          rw [t, decide_eq_false hp]
          rfl
        refine sCons_rt ?_
        rw [s48]
        exact ret2 (add_of (u := [48]) (v := ft x) (by rw [List.length_singleton]; omega) (cs _ none) (r4 none)) (ci 1 none)
      · simp
        omega
  · refine ⟨[45, 48] ++ [], 1, key _ _ (pE 3 num den f (ft x) g none) fun d hd => ?_, ?_, sp_2n [], fun _ z => by simp at z⟩
    · subst hd
      refine head rfl ?_
      refine (sCons_nx (ρ1 := pE 3 num den f (ft x) g none) rfl).trans ?_
      refine (sCons_nx (ρ1 := pE 3 num den f (ft x) g none) rfl).trans ?_
      refine (sCons_nx (ρ1 := pE 3 num den f (ft x) g none) rfl).trans ?_
      refine sCons_rt ?_
      refine (sIf_t rfl).trans ?_
      refine sCons_rt ?_
      rw [s45_0]
      exact ret2 (cs _ none) (ci 1 none)
    · simp
  · refine ⟨ft x ++ [32, 32], (ft x).length + 1, key _ _ (pE 4 num den f (ft x) g none) fun d hd => ?_, ?_, sp_4 ox.q, fun _ z => by simp at z⟩
    · subst hd
      refine head rfl ?_
      refine (sCons_nx (ρ1 := pE 4 num den f (ft x) g none) rfl).trans ?_
      refine (sCons_nx (ρ1 := pE 4 num den f (ft x) g none) rfl).trans ?_
      refine (sCons_nx (ρ1 := pE 4 num den f (ft x) g none) rfl).trans ?_
      refine (sCons_nx (ρ1 := pE 4 num den f (ft x) g none) rfl).trans ?_
      refine sCons_rt ?_
      refine (sIf_t rfl).trans ?_
      refine sCons_rt ?_
      rw [s32_2]
      refine ret2 (add_of (by simp; omega) (r4 none) (cs _ none)) ?_
      exact iadd_of (len_of (by omega) (r4 none)) (ci 1 none)
    · simp
      omega
  · refine ⟨wt num ++ [47, 48], (wt num).length + 1, key _ _ (pE 5 num den f (ft x) g none) fun d hd => ?_, ?_, sp_5 (by omega), fun _ z => by simp at z⟩
    · subst hd
      refine head rfl ?_
      refine (sCons_nx (ρ1 := pE 5 num den f (ft x) g none) rfl).trans ?_
      refine (sCons_nx (ρ1 := pE 5 num den f (ft x) g none) rfl).trans ?_
      refine (sCons_nx (ρ1 := pE 5 num den f (ft x) g none) rfl).trans ?_
      refine (sCons_nx (ρ1 := pE 5 num den f (ft x) g none) rfl).trans ?_
      refine (sCons_nx (ρ1 := pE 5 num den f (ft x) g none) rfl).trans ?_
      refine sCons_rt ?_
      refine (sIf_t rfl).trans ?_
      refine sCons_rt ?_
      rw [s47_0]
      refine ret2 (add_of (by simp; omega) (str_of (by omega) (r1 none)) (cs _ none)) ?_
      exact iadd_of (len_of (by omega) (str_of (by omega) (r1 none))) (ci 1 none)
    · simp
      omega
  · refine ⟨[], 0, key _ _ (pE 6 num den f (ft x) g none) fun d hd => ?_, ?_, sp_6, fun z => by omega⟩
    · subst hd
      refine head rfl ?_
      refine (sCons_nx (ρ1 := pE 6 num den f (ft x) g none) rfl).trans ?_
      refine (sCons_nx (ρ1 := pE 6 num den f (ft x) g none) rfl).trans ?_
      refine (sCons_nx (ρ1 := pE 6 num den f (ft x) g none) rfl).trans ?_
      refine (sCons_nx (ρ1 := pE 6 num den f (ft x) g none) rfl).trans ?_
      refine (sCons_nx (ρ1 := pE 6 num den f (ft x) g none) rfl).trans ?_
      refine (sCons_nx (ρ1 := pE 6 num den f (ft x) g none) rfl).trans ?_
      refine sCons_rt ?_
      rw [s_no]
      exact ret2 (cs _ none) (ci 0 none)
    · simp
end K98
namespace K98
open PySem PySem.Spec PyProof.Rows L2 Ce
/-! ### _law_poly -/
def pC : En → SOut := (sIf (tAnd2 (tst (op2 sEq (rd 8) (op2 iMod (rd 2) (rd 7)))) (tAnd2 (tst (op2 iGt (vLen (vw 3)) (cst (.int 0)))) (tst (op2 iLt (ixV 3 (cst (.int 0))) (cst (.int 7)))))) (sCons (sSet 12 (ixV 3 (cst (.int 0)))) (sCons (sIf (tAnd2 (tst (op2 sEq (rd 12) (cst (.int 6)))) (tst (op2 sEq (rd 7) (cst (.int 1))))) (sCons (sSet 12 (cst (.int 3))) sNil) sNil) (sCons (sIf (tst (op2 sEq (rd 9) (cst (.int 0)))) (sCons (sSet 9 (cst (.int 3))) sNil) sNil) (sCons (sSet 13 (cl1 (fnM 4 [] m__law_spoilt) (aC (rd 12) (aC (rd 9) (aC (rd 10) (aC (ixV 3 (cst (.int 1))) aN)))))) (sCons (sSet 11 (ix (rd 13) (cst (.int 0)))) (sCons (sSet 5 (op2 iAdd (rd 6) (ix (rd 13) (cst (.int 1))))) sNil)))))) sNil)
def pB1 : En → SOut := (sSet 9 (op2 iSub (op2 iMod (ixV 0 (op2 iAdd (op2 iAdd (rd 1) (cst (.int 1))) (rd 8))) (cst (.int 41))) (cst (.int 20))))
def pB2 : En → SOut := (sSet 10 (op2 iAdd (op2 iMod (op2 iDiv (ixV 0 (op2 iAdd (op2 iAdd (rd 1) (cst (.int 1))) (rd 8))) (cst (.int 41))) (cst (.int 6))) (cst (.int 1))))
def pB3 : En → SOut := (sIf (tAnd2 (tst (op2 sEq (rd 8) (op2 iSub (rd 7) (cst (.int 1))))) (tst (op2 sEq (rd 9) (cst (.int 0))))) (sCons (sSet 9 (cst (.int 7))) sNil) sNil)
def pB4 : En → SOut := (sSet 11 (cl1 (fnM 2 [] m__law_shown) (aC (rd 9) (aC (rd 10) aN))))
def pB6 : En → SOut := (sSet 6 (op2 iAdd (op2 iAdd (rd 6) (cl1 (fun ds => opt (kLen ds)) (aC (rd 11) aN))) (cst (.int 1))))
def pB : En → SOut := sCons pB1 (sCons pB2 (sCons pB3 (sCons pB4 (sCons pC (sCons (sApp 4 (rd 11)) (sCons pB6 sNil))))))
def pT1 : En → SOut := (sSet 14 (op2 tAddS (op2 tAddS (cst (.str (PySem.Str.ofString "["))) (jnV 4 (cst (.str (PySem.Str.ofString " "))))) (cst (.str (PySem.Str.ofString "]")))))
def pT2 : En → SOut := (sIf (tAnd2 (tst (op2 iGt (vLen (vw 3)) (cst (.int 0)))) (tst (op2 sEq (ixV 3 (cst (.int 0))) (cst (.int 7))))) (sCons (sSet 14 (op2 tAddS (op2 tAddS (cst (.str (PySem.Str.ofString "["))) (sm1 kJoin (cst (.str (PySem.Str.ofString " "))) (fz (nCatV 4 (nLst (aC (cst (.str (PySem.Str.ofString "0"))) aN)))))) (cst (.str (PySem.Str.ofString "]"))))) (sCons (sSet 5 (cl1 (fun ds => opt (kLen ds)) (aC (rd 14) aN))) sNil)) sNil)
def pR : En → SOut := (sCons pT1 (sCons pT2 (sCons (sRet (fz (nLst (aC (rd 14) (aC (rd 5) aN))))) sNil)))
def pSz : En → SOut := (sSet 7 (op2 iAdd (op2 iMod (ixV 0 (rd 1)) (cst (.int 4))) (cst (.int 1))))
theorem b_poly_eq : b__law_poly = (sCons (sSetN 4 (nLst aN)) (sCons (sSet 5 (iNeg (cst (.int 1)))) (sCons (sSet 6 (cst (.int 1))) (sCons pSz (sCons (sFor (itR1 (aC (rd 7) aN)) (gN 8) pB) pR))))) := rfl
abbrev zD (zs : List Int) : Option O := some (.im (.lst (zs.map .int)))
abbrev oS4 (es : List (List Nat)) : Option O := some (.ol (es.map fun t => .str (S t)))
abbrev oI (i : Int) : Option O := some (.im (.int i))
abbrev oT (t : List Nat) : Option O := some (.im (.str (S t)))
/-- the store in the loop -/
abbrev sP (zs : List Int) (p : Nat) (spot : Int) (q : List D) (es : List (List Nat)) (w L : Int) (sz : Nat) (x8 x9 x10 x11 x12 x13 : Option O) : En := [zD zs, oI p, oI spot, some (.im (.lst q)), oS4 es, oI w, oI L, oI sz, x8, x9, x10, x11, x12, x13, none]
def sz (zs : List Int) (p : Nat) : Nat := ((zs.getD p 0).fmod 4 + 1).toNat
def nm (zs : List Int) (p i : Nat) : Int := if i + 1 = sz zs p ∧ (zs.getD (p + 1 + i) 0).fmod 41 - 20 = 0 then 7 else (zs.getD (p + 1 + i) 0).fmod 41 - 20
def dn (zs : List Int) (p i : Nat) : Int := ((zs.getD (p + 1 + i) 0).fdiv 41).fmod 6 + 1
def xq (zs : List Int) (p i : Nat) : Rat := Rat.divInt (nm zs p i) (dn zs p i)
theorem fmod_b (a : Int) {m : Int} (h : 0 < m) : 0 ≤ a.fmod m ∧ a.fmod m < m := ⟨Int.fmod_nonneg_of_pos a h, Int.fmod_lt_of_pos a h⟩
theorem sz_b (zs : List Int) (p : Nat) : 1 ≤ sz zs p ∧ sz zs p ≤ 4 := by
  have := fmod_b (zs.getD p 0) (show (0 : Int) < 4 by omega)
  unfold sz
  omega
theorem sz_i (zs : List Int) (p : Nat) : ((sz zs p : Nat) : Int) = (zs.getD p 0).fmod 4 + 1 := by
  have := fmod_b (zs.getD p 0) (show (0 : Int) < 4 by omega)
  unfold sz
  omega
theorem nd (zs : List Int) (p i : Nat) : Nd (nm zs p i) (dn zs p i) := by
  have a := fmod_b (zs.getD (p + 1 + i) 0) (show (0 : Int) < 41 by omega)
  have b := fmod_b ((zs.getD (p + 1 + i) 0).fdiv 41) (show (0 : Int) < 6 by omega)
  constructor
  · unfold nm
    split <;> omega
  · unfold dn
    omega
theorem nm_last (zs : List Int) (p i : Nat) (h : i + 1 = sz zs p) : nm zs p i ≠ 0 := by
  unfold nm
  split
  · omega
  · rename_i z
    exact fun e => z ⟨h, e⟩
theorem xq_okx (zs : List Int) (p i : Nat) : okx (xq zs p i) := (nd_okx (nd zs p i)).1
theorem xq_last (zs : List Int) (p i : Nat) (h : i + 1 = sz zs p) : xq zs p i ≠ 0 := by
  intro z
  have n := nd zs p i
  have := nm_last zs p i h
  unfold xq at z
  have e1 := nd_num n
  rw [z] at e1
  have g0 : 0 < Nat.gcd (nm zs p i).natAbs (dn zs p i).natAbs := Nat.gcd_pos_of_pos_right _ (by have := n.d; omega)
  have h1 : ((Nat.gcd (nm zs p i).natAbs (dn zs p i).natAbs : Nat) : Int) ∣ nm zs p i := Int.ofNat_dvd_left.mpr (Nat.gcd_dvd_left _ _)
  generalize Nat.gcd (nm zs p i).natAbs (dn zs p i).natAbs = g at *
  obtain ⟨c, ec⟩ := h1
  rw [ec, Int.mul_comm, Int.mul_fdiv_cancel c (by omega)] at e1
  have e2 : c = 0 := e1
  rw [e2, Int.mul_zero] at ec
  exact this ec
theorem at_zs {zs : List Int} {j : Nat} (h : j < zs.length) : L2.atI (zs.map D.int) (j : Int) = some (.int (zs.getD j 0)) := by
  rw [Ce.atI_nat, List.getElem?_map, List.getD_eq_getElem?_getD, List.getElem?_eq_getElem h]
  rfl
section
variable {zs : List Int} {p : Nat} {spot : Int} {q : List D} {es : List (List Nat)} {w L : Int} {i : Nat} {x9 x10 x11 x12 x13 : Option O}
theorem pB1_run (h : p + 1 + i < zs.length) : pB1 (sP zs p spot q es w L (sz zs p) (oI i) x9 x10 x11 x12 x13) = .nx (sP zs p spot q es w L (sz zs p) (oI i) (oI ((zs.getD (p + 1 + i) 0).fmod 41 - 20)) x10 x11 x12 x13) := by
  have e : ixV 0 (op2 iAdd (op2 iAdd (rd 1) (cst (.int 1))) (rd 8)) (sP zs p spot q es w L (sz zs p) (oI i) x9 x10 x11 x12 x13) = .ok (.int (zs.getD (p + 1 + i) 0)) (sP zs p spot q es w L (sz zs p) (oI i) x9 x10 x11 x12 x13) := by
    show opt (L2.atI (zs.map D.int) ((p : Int) + 1 + (i : Int))) _ = _
    rw [show (p : Int) + 1 + (i : Int) = ((p + 1 + i : Nat) : Int) by omega, at_zs h]
    rfl
  unfold pB1 sSet
  rw [op2, op2, e]
  rfl
theorem pB2_run (h : p + 1 + i < zs.length) : pB2 (sP zs p spot q es w L (sz zs p) (oI i) x9 x10 x11 x12 x13) = .nx (sP zs p spot q es w L (sz zs p) (oI i) x9 (oI (dn zs p i)) x11 x12 x13) := by
  have e : ixV 0 (op2 iAdd (op2 iAdd (rd 1) (cst (.int 1))) (rd 8)) (sP zs p spot q es w L (sz zs p) (oI i) x9 x10 x11 x12 x13) = .ok (.int (zs.getD (p + 1 + i) 0)) (sP zs p spot q es w L (sz zs p) (oI i) x9 x10 x11 x12 x13) := by
    show opt (L2.atI (zs.map D.int) ((p : Int) + 1 + (i : Int))) _ = _
    rw [show (p : Int) + 1 + (i : Int) = ((p + 1 + i : Nat) : Int) by omega, at_zs h]
    rfl
  have d : divOk 41 = true := by decide +kernel
  have e2 : op2 iDiv (ixV 0 (op2 iAdd (op2 iAdd (rd 1) (cst (.int 1))) (rd 8))) (cst (.int 41)) (sP zs p spot q es w L (sz zs p) (oI i) x9 x10 x11 x12 x13) = .ok (.int ((zs.getD (p + 1 + i) 0).fdiv 41)) (sP zs p spot q es w L (sz zs p) (oI i) x9 x10 x11 x12 x13) := by
    rw [op2, e]
    show opt (if divOk 41 then some (D.int ((zs.getD (p + 1 + i) 0).fdiv 41)) else none) _ = _
    rw [if_pos d]
    rfl
  unfold pB2 sSet
  rw [op2, op2, e2]
  rfl
theorem pB3_run : pB3 (sP zs p spot q es w L (sz zs p) (oI i) (oI ((zs.getD (p + 1 + i) 0).fmod 41 - 20)) x10 x11 x12 x13) = .nx (sP zs p spot q es w L (sz zs p) (oI i) (oI (nm zs p i)) x10 x11 x12 x13) := by
  unfold nm
  generalize (zs.getD (p + 1 + i) 0).fmod 41 - 20 = v
  have sb := sz_b zs p
  generalize sz zs p = s at *
  have t : (tAnd2 (tst (op2 sEq (rd 8) (op2 iSub (rd 7) (cst (.int 1))))) (tst (op2 sEq (rd 9) (cst (.int 0))))) (sP zs p spot q es w L s (oI i) (oI v) x10 x11 x12 x13) = .ok (decide (i + 1 = s ∧ v = 0)) (sP zs p spot q es w L s (oI i) (oI v) x10 x11 x12 x13) := by
    have t1 : tst (op2 sEq (rd 8) (op2 iSub (rd 7) (cst (.int 1)))) (sP zs p spot q es w L s (oI i) (oI v) x10 x11 x12 x13) = .ok (decide ((i : Int) = (s : Int) - 1)) (sP zs p spot q es w L s (oI i) (oI v) x10 x11 x12 x13) := rfl
    have t2 : tst (op2 sEq (rd 9) (cst (.int 0))) (sP zs p spot q es w L s (oI i) (oI v) x10 x11 x12 x13) = .ok (decide (v = 0)) (sP zs p spot q es w L s (oI i) (oI v) x10 x11 x12 x13) := rfl
    unfold tAnd2
    rw [t1]
    by_cases h1 : i + 1 = s
    · rw [decide_eq_true (show (i : Int) = (s : Int) - 1 by omega)]
      simp only [Out.bind]
      rw [t2]
      simp [h1]
    · rw [decide_eq_false (show ¬ (i : Int) = (s : Int) - 1 by omega)]
      simp only [Out.bind]
      simp [h1]
  unfold pB3
  by_cases h : i + 1 = s ∧ v = 0
  · rw [if_pos h]
    rw [decide_eq_true h] at t
    exact sIf_t t
  · rw [if_neg h]
    rw [decide_eq_false h] at t
    exact sIf_f t
theorem pB4_run : pB4 (sP zs p spot q es w L (sz zs p) (oI i) (oI (nm zs p i)) (oI (dn zs p i)) x11 x12 x13) = .nx (sP zs p spot q es w L (sz zs p) (oI i) (oI (nm zs p i)) (oI (dn zs p i)) (oT (ft (xq zs p i))) x12 x13) := by
  have e := shown_run (nd zs p i)
  unfold pB4 sSet cl1
  show Out.st (fnM 2 [] m__law_shown [.int (nm zs p i), .int (dn zs p i)] _) _ = _
  rw [e]
  rfl
theorem pB5_run {t : List Nat} (hl : es.length < 100) : (sApp 4 (rd 11)) (sP zs p spot q es w L (sz zs p) (oI i) x9 x10 (oT t) x12 x13) = .nx (sP zs p spot q (es ++ [t]) w L (sz zs p) (oI i) x9 x10 (oT t) x12 x13) := by
  have z : ((es.map fun t => D.str (S t)).length < sizeLine) := by rw [sizeLine_eq, List.length_map]; omega
  have e : es.map (fun t => D.str (S t)) ++ [D.str (S t)] = (es ++ [t]).map fun t => D.str (S t) := by simp
  show (if decide ((es.map fun t => D.str (S t)).length < sizeLine) then SOut.nx ((sP zs p spot q es w L (sz zs p) (oI i) x9 x10 (oT t) x12 x13).set 4 (some (.ol (es.map (fun t => D.str (S t)) ++ [D.str (S t)])))) else .er) = _
  rw [if_pos (decide_eq_true z), e]
  rfl
theorem pB6_run {t : List Nat} (hl : t.length ≤ 1000) : pB6 (sP zs p spot q es w L (sz zs p) (oI i) x9 x10 (oT t) x12 x13) = .nx (sP zs p spot q es w (L + (t.length : Nat) + 1) (sz zs p) (oI i) x9 x10 (oT t) x12 x13) := by
  have e := len_of (u := t) (by omega) (show rd 11 (sP zs p spot q es w L (sz zs p) (oI i) x9 x10 (oT t) x12 x13) = .ok (.str (S t)) _ from rfl)
  have e2 := iadd_of (iadd_of (show rd 6 (sP zs p spot q es w L (sz zs p) (oI i) x9 x10 (oT t) x12 x13) = .ok (.int L) _ from rfl) e) (show cst (.int 1) (sP zs p spot q es w L (sz zs p) (oI i) x9 x10 (oT t) x12 x13) = .ok (.int 1) _ from rfl)
  unfold pB6 sSet
  rw [e2]
  rfl
end
end K98
namespace K98
open PySem PySem.Spec PyProof.Rows L2 Ce
theorem ld_len1 (B : List (List Nat)) (t : List Nat) : (ld (B ++ [t])).length = (ld B).length + t.length + 1 := by
  rw [ld_snoc]
  simp
  omega
abbrev esv (T : Nat → List Nat) (i : Nat) : List (List Nat) := (List.range i).map T
abbrev Lv (T : Nat → List Nat) (i : Nat) : Int := ((1 + (ld (esv T i)).length : Nat) : Int)
theorem esv_succ (T : Nat → List Nat) (i : Nat) : esv T (i + 1) = esv T i ++ [T i] := by
  simp [esv, List.range_succ]
theorem esv_len (T : Nat → List Nat) (i : Nat) : (esv T i).length = i := by simp [esv]
theorem sNil_r {f : En → SOut} {ρ ρ1 : En} (h : f ρ = .nx ρ1) : sCons f sNil ρ = .nx ρ1 := by
  rw [sCons_nx h]
  rfl
section
variable {zs : List Int} {p : Nat} {spot : Int} {q : List D}
theorem poly_loop (T : Nat → List Nat) (wv : Nat → Int) (hT : ∀ i, (T i).length ≤ 30) (hp : p + 5 ≤ zs.length) (w0 : wv 0 = -1)
    (step : ∀ i, i < sz zs p → ∀ x12 x13, ∃ y9 y12 y13, pC (sP zs p spot q (esv T i) (wv i) (Lv T i) (sz zs p) (oI i) (oI (nm zs p i)) (oI (dn zs p i)) (oT (ft (xq zs p i))) x12 x13) = .nx (sP zs p spot q (esv T i) (wv (i + 1)) (Lv T i) (sz zs p) (oI i) y9 (oI (dn zs p i)) (oT (T i)) y12 y13)) :
    ∃ x8 x9 x10 x11 x12 x13, sFor (itR1 (aC (rd 7) aN)) (gN 8) pB (sP zs p spot q [] (-1) 1 (sz zs p) none none none none none none) = .nx (sP zs p spot q (esv T (sz zs p)) (wv (sz zs p)) (Lv T (sz zs p)) (sz zs p) x8 x9 x10 x11 x12 x13) := by
  have sb := sz_b zs p
  have it : itR1 (aC (rd 7) aN) (sP zs p spot q [] (-1) 1 (sz zs p) none none none none none none) = .ok (rngD 0 1 (sz zs p)) (sP zs p spot q [] (-1) 1 (sz zs p) none none none none none none) := itR1_ok (j := ((sz zs p : Nat) : Int)) rfl (inR_nat _ (by omega))
  obtain ⟨ρ', e, x8, x9, x10, x11, x12, x13, e2⟩ := forL_inv (g := gN 8) (b := pB) (fun k ρ => ∃ x8 x9 x10 x11 x12 x13, ρ = sP zs p spot q (esv T k) (wv k) (Lv T k) (sz zs p) x8 x9 x10 x11 x12 x13) (rngD 0 1 (sz zs p)) 0 (sP zs p spot q [] (-1) 1 (sz zs p) none none none none none none) ⟨none, none, none, none, none, none, by rw [w0]; rfl⟩ (by
    rintro i d ρ hi ⟨x8, x9, x10, x11, x12, x13, rfl⟩
    obtain ⟨hj, rfl⟩ := rng_at hi
    rw [Nat.zero_add, Int.zero_add]
    obtain ⟨y9, y12, y13, st⟩ := step i hj x12 x13
    refine ⟨sP zs p spot q (esv T i) (wv i) (Lv T i) (sz zs p) (oI i) x9 x10 x11 x12 x13, sP zs p spot q (esv T (i + 1)) (wv (i + 1)) (Lv T (i + 1)) (sz zs p) (oI i) y9 (oI (dn zs p i)) (oT (T i)) y12 y13, rfl, ?_, oI i, y9, oI (dn zs p i), oT (T i), y12, y13, rfl⟩
    unfold pB
    rw [sCons_nx (pB1_run (by omega)), sCons_nx (pB2_run (by omega)), sCons_nx pB3_run, sCons_nx pB4_run, sCons_nx st, sCons_nx (pB5_run (by rw [esv_len]; omega)), sNil_r (pB6_run (by have := hT i; omega)), esv_succ]
    have el : Lv T i + ((T i).length : Nat) + 1 = Lv T (i + 1) := by
      unfold Lv
      rw [esv_succ, ld_len1]
      omega
    rw [el])
  rw [rngD_len, Nat.zero_add] at e2
  refine ⟨x8, x9, x10, x11, x12, x13, ?_⟩
  unfold sFor
  rw [it]
  show forL _ _ _ _ = _
  rw [e, e2]
abbrev sQ (zs : List Int) (p : Nat) (spot : Int) (q : List D) (es : List (List Nat)) (w L : Int) (sz : Nat) (x8 x9 x10 x11 x12 x13 x14 : Option O) : En := [zD zs, oI p, oI spot, some (.im (.lst q)), oS4 es, oI w, oI L, oI sz, x8, x9, x10, x11, x12, x13, x14]
abbrev tx (es : List (List Nat)) : List Nat := 91 :: (jb es ++ [93])
variable {es : List (List Nat)} {w L : Int} {s : Nat} {x8 x9 x10 x11 x12 x13 x14 : Option O}
theorem sum_le : ∀ (es : List (List Nat)), (∀ t ∈ es, t.length ≤ 30) → (es.map List.length).sum ≤ 30 * es.length
  | [], _ => by simp
  | t :: es, h => by
    have := h t List.mem_cons_self
    have := sum_le es fun t ht => h t (List.mem_cons_of_mem _ ht)
    rw [List.map_cons, List.sum_cons, List.length_cons]
    omega
theorem jb_le (h : ∀ t ∈ es, t.length ≤ 30) : (jb es).length ≤ 31 * es.length := by
  have a := jb_len es
  have b := sum_le es h
  omega
theorem pT1_run (h : ∀ t ∈ es, t.length ≤ 30) (hl : es.length ≤ 10) : pT1 (sQ zs p spot q es w L s x8 x9 x10 x11 x12 x13 x14) = .nx (sQ zs p spot q es w L s x8 x9 x10 x11 x12 x13 (oT (tx es))) := by
  have a := sum_le es h
  have b := jb_le h
  have kj := kJoin_S es (by omega)
  have e1 : jnV 4 (cst (.str (S [32]))) (sQ zs p spot q es w L s x8 x9 x10 x11 x12 x13 x14) = .ok (.str (S (jb es))) (sQ zs p spot q es w L s x8 x9 x10 x11 x12 x13 x14) := by
    show opt (kJoin (S [32]) (.lst (es.map fun t => D.str (S t)))) _ = _
    rw [kj]
    rfl
  have e2 := add_of (by simp only [List.length_append, List.length_cons, List.length_nil]; omega) (add_of (by simp only [List.length_cons, List.length_nil]; omega) (show cst (.str (S [91])) (sQ zs p spot q es w L s x8 x9 x10 x11 x12 x13 x14) = .ok (.str (S [91])) _ from rfl) e1) (show cst (.str (S [93])) (sQ zs p spot q es w L s x8 x9 x10 x11 x12 x13 x14) = .ok (.str (S [93])) _ from rfl)
  unfold pT1 sSet
  rw [s91, s93, s32, e2]
  rfl
theorem pT2_no (hq : q = [] ∨ ∃ c f : Int, q = [.int c, .int f] ∧ c ≠ 7) : pT2 (sQ zs p spot q es w L s x8 x9 x10 x11 x12 x13 x14) = .nx (sQ zs p spot q es w L s x8 x9 x10 x11 x12 x13 x14) := by
  rcases hq with rfl | ⟨c, f, rfl, hc⟩
  · exact sIf_f rfl
  · refine sIf_f ?_
    show Out.ok (decide (c = 7)) _ = _
    rw [decide_eq_false hc]
theorem pT2_yes {f : Int} (h : ∀ t ∈ es, t.length ≤ 30) (hl : es.length ≤ 8) : pT2 (sQ zs p spot [.int 7, .int f] es w L s x8 x9 x10 x11 x12 x13 x14) = .nx (sQ zs p spot [.int 7, .int f] es ((tx (es ++ [[48]])).length : Nat) L s x8 x9 x10 x11 x12 x13 (oT (tx (es ++ [[48]])))) := by
  have h' : ∀ t ∈ es ++ [[48]], t.length ≤ 30 := by
    intro t ht
    rcases List.mem_append.mp ht with ht | ht
    · exact h t ht
    · rw [List.mem_singleton.mp ht]; decide
  have hl' : (es ++ [[48]]).length ≤ 9 := by simp; omega
  have a := sum_le _ h'
  have b := jb_le h'
  have kj := kJoin_S (es ++ [[48]]) (by omega)
  have e1 : sm1 kJoin (cst (.str (S [32]))) (fz (nCatV 4 (nLst (aC (cst (.str (S [48]))) aN)))) (sQ zs p spot [.int 7, .int f] es w L s x8 x9 x10 x11 x12 x13 x14) = .ok (.str (S (jb (es ++ [[48]])))) (sQ zs p spot [.int 7, .int f] es w L s x8 x9 x10 x11 x12 x13 x14) := by
    have n1 : nLst (aC (cst (.str (S [48]))) aN) (sQ zs p spot [.int 7, .int f] es w L s x8 x9 x10 x11 x12 x13 x14) = .ok [.str (S [48])] (sQ zs p spot [.int 7, .int f] es w L s x8 x9 x10 x11 x12 x13 x14) := by
      have z : decide (([D.str (S [48])] : List D).length ≤ sizeLine) = true := by rw [sizeLine_eq]; rfl
      simp only [nLst, aC, cst, aN, Out.bind, z, if_true]
    have n2 : nCatV 4 (nLst (aC (cst (.str (S [48]))) aN)) (sQ zs p spot [.int 7, .int f] es w L s x8 x9 x10 x11 x12 x13 x14) = .ok ((es ++ [[48]]).map fun t => D.str (S t)) (sQ zs p spot [.int 7, .int f] es w L s x8 x9 x10 x11 x12 x13 x14) := by
      unfold nCatV
      simp only [List.getElem?_cons_succ, List.getElem?_cons_zero]
      rw [n1]
      simp only [Out.bind, List.getElem?_cons_succ, List.getElem?_cons_zero]
      have z : decide ((es.map fun t => D.str (S t)).length + [D.str (S [48])].length ≤ sizeLine) = true := by rw [sizeLine_eq, decide_eq_true_iff]; simp; omega
      rw [if_pos z, List.map_append]
      rfl
    unfold sm1 fz
    simp only [cst, Out.bind] at n2 ⊢
    rw [n2]
    simp only [kj, opt]
  have e2 := add_of (by simp only [List.length_append, List.length_cons, List.length_nil]; omega) (add_of (by simp only [List.length_cons, List.length_nil]; omega) (show cst (.str (S [91])) (sQ zs p spot [.int 7, .int f] es w L s x8 x9 x10 x11 x12 x13 x14) = .ok (.str (S [91])) _ from rfl) e1) (show cst (.str (S [93])) (sQ zs p spot [.int 7, .int f] es w L s x8 x9 x10 x11 x12 x13 x14) = .ok (.str (S [93])) _ from rfl)
  refine (sIf_t rfl).trans ?_
  rw [s91, s93, s32, s48]
  refine (sCons_nx (ρ1 := sQ zs p spot [.int 7, .int f] es w L s x8 x9 x10 x11 x12 x13 (oT (tx (es ++ [[48]])))) ?_).trans ?_
  · unfold sSet
    rw [e2]
    rfl
  · refine sNil_r ?_
    unfold sSet
    rw [len_of (A := rd 14) (u := tx (es ++ [[48]])) (σ := sQ zs p spot [.int 7, .int f] es w L s x8 x9 x10 x11 x12 x13 (oT (tx (es ++ [[48]])))) (by simp only [List.length_append, List.length_cons, List.length_nil] at b hl' ⊢; omega) rfl]
    rfl
theorem pEnd_run {T : List Nat} : (sCons (sRet (fz (nLst (aC (rd 14) (aC (rd 5) aN))))) sNil) (sQ zs p spot q es w L s x8 x9 x10 x11 x12 x13 (oT T)) = .rt (.lst [.str (S T), .int w]) (sQ zs p spot q es w L s x8 x9 x10 x11 x12 x13 (oT T)) := sCons_rt (ret2 rfl rfl)
end
theorem pSz_run {zs : List Int} {p : Nat} {spot : Int} {q : List D} (hp : p < zs.length) : pSz [zD zs, oI p, oI spot, some (.im (.lst q)), some (.ol []), oI (-1), oI 1, none, none, none, none, none, none, none, none] = .nx (sP zs p spot q [] (-1) 1 (sz zs p) none none none none none none) := by
  have e : ixV 0 (rd 1) [zD zs, oI p, oI spot, some (.im (.lst q)), some (.ol []), oI (-1), oI 1, none, none, none, none, none, none, none, none] = .ok (.int (zs.getD p 0)) [zD zs, oI p, oI spot, some (.im (.lst q)), some (.ol []), oI (-1), oI 1, none, none, none, none, none, none, none, none] := by
    show opt (L2.atI (zs.map D.int) (p : Int)) _ = _
    rw [at_zs hp]
    rfl
  unfold pSz sSet
  rw [op2, op2, e]
  show SOut.nx _ = _
  unfold sP
  rw [sz_i]
  rfl
/-- _law_poly, given what the loop writes -/
theorem poly_gen {zs : List Int} {p : Nat} {spot : Int} {q : List D} (T : Nat → List Nat) (wv : Nat → Int) (hT : ∀ i, (T i).length ≤ 30) (hp : p + 5 ≤ zs.length) (w0 : wv 0 = -1)
    (step : ∀ i, i < sz zs p → ∀ x12 x13, ∃ y9 y12 y13, pC (sP zs p spot q (esv T i) (wv i) (Lv T i) (sz zs p) (oI i) (oI (nm zs p i)) (oI (dn zs p i)) (oT (ft (xq zs p i))) x12 x13) = .nx (sP zs p spot q (esv T i) (wv (i + 1)) (Lv T i) (sz zs p) (oI i) y9 (oI (dn zs p i)) (oT (T i)) y12 y13))
    (hq : q = [] ∨ ∃ c f : Int, q = [.int c, .int f] ∧ c ≠ 7) (ρ : En) : fnM 4 [] m__law_poly [.lst (zs.map .int), .int p, .int spot, .lst q] ρ = .ok (.lst [.str (S (tx (esv T (sz zs p)))), .int (wv (sz zs p))]) ρ := by
  obtain ⟨x8, x9, x10, x11, x12, x13, e⟩ := poly_loop T wv hT hp w0 step
  have sb := sz_b zs p
  have hm : ∀ t ∈ esv T (sz zs p), t.length ≤ 30 := by
    intro t ht
    obtain ⟨i, _, rfl⟩ := List.mem_map.mp ht
    exact hT i
  refine fn_rt (m := 15) ρ rfl (ρ' := sQ zs p spot q (esv T (sz zs p)) (wv (sz zs p)) (Lv T (sz zs p)) (sz zs p) x8 x9 x10 x11 x12 x13 (oT (tx (esv T (sz zs p))))) ?_
  rw [b_poly_eq]
  show sCons _ _ [zD zs, oI p, oI spot, some (.im (.lst q)), none, none, none, none, none, none, none, none, none, none, none] = _
  refine (sCons_nx (ρ1 := [zD zs, oI p, oI spot, some (.im (.lst q)), some (.ol []), none, none, none, none, none, none, none, none, none, none]) rfl).trans ?_
  refine (sCons_nx (ρ1 := [zD zs, oI p, oI spot, some (.im (.lst q)), some (.ol []), oI (-1), none, none, none, none, none, none, none, none, none]) rfl).trans ?_
  refine (sCons_nx (ρ1 := [zD zs, oI p, oI spot, some (.im (.lst q)), some (.ol []), oI (-1), oI 1, none, none, none, none, none, none, none, none]) rfl).trans ?_
  rw [sCons_nx (pSz_run (by omega)), sCons_nx e]
  unfold pR
  rw [sCons_nx (pT1_run hm (by rw [esv_len]; omega)), sCons_nx (pT2_no hq), pEnd_run]
theorem poly_seven {zs : List Int} {p : Nat} {spot f : Int} (T : Nat → List Nat) (wv : Nat → Int) (hT : ∀ i, (T i).length ≤ 30) (hp : p + 5 ≤ zs.length) (w0 : wv 0 = -1)
    (step : ∀ i, i < sz zs p → ∀ x12 x13, ∃ y9 y12 y13, pC (sP zs p spot [.int 7, .int f] (esv T i) (wv i) (Lv T i) (sz zs p) (oI i) (oI (nm zs p i)) (oI (dn zs p i)) (oT (ft (xq zs p i))) x12 x13) = .nx (sP zs p spot [.int 7, .int f] (esv T i) (wv (i + 1)) (Lv T i) (sz zs p) (oI i) y9 (oI (dn zs p i)) (oT (T i)) y12 y13))
    (ρ : En) : fnM 4 [] m__law_poly [.lst (zs.map .int), .int p, .int spot, .lst [.int 7, .int f]] ρ = .ok (.lst [.str (S (tx (esv T (sz zs p) ++ [[48]]))), .int ((tx (esv T (sz zs p) ++ [[48]])).length : Nat)]) ρ := by
  obtain ⟨x8, x9, x10, x11, x12, x13, e⟩ := poly_loop T wv hT hp w0 step
  have sb := sz_b zs p
  have hm : ∀ t ∈ esv T (sz zs p), t.length ≤ 30 := by
    intro t ht
    obtain ⟨i, _, rfl⟩ := List.mem_map.mp ht
    exact hT i
  refine fn_rt (m := 15) ρ rfl (ρ' := sQ zs p spot [.int 7, .int f] (esv T (sz zs p)) ((tx (esv T (sz zs p) ++ [[48]])).length : Nat) (Lv T (sz zs p)) (sz zs p) x8 x9 x10 x11 x12 x13 (oT (tx (esv T (sz zs p) ++ [[48]])))) ?_
  rw [b_poly_eq]
  show sCons _ _ [zD zs, oI p, oI spot, some (.im (.lst [.int 7, .int f])), none, none, none, none, none, none, none, none, none, none, none] = _
  refine (sCons_nx (ρ1 := [zD zs, oI p, oI spot, some (.im (.lst [.int 7, .int f])), some (.ol []), none, none, none, none, none, none, none, none, none, none]) rfl).trans ?_
  refine (sCons_nx (ρ1 := [zD zs, oI p, oI spot, some (.im (.lst [.int 7, .int f])), some (.ol []), oI (-1), none, none, none, none, none, none, none, none, none]) rfl).trans ?_
  refine (sCons_nx (ρ1 := [zD zs, oI p, oI spot, some (.im (.lst [.int 7, .int f])), some (.ol []), oI (-1), oI 1, none, none, none, none, none, none, none, none]) rfl).trans ?_
  rw [sCons_nx (pSz_run (by omega)), sCons_nx e]
  unfold pR
  rw [sCons_nx (pT1_run hm (by rw [esv_len]; omega)), sCons_nx (pT2_yes hm (by rw [esv_len]; omega)), pEnd_run]
end K98
namespace K98
open PySem PySem.Spec PyProof.Rows L2 Ce
def pCt : En → Out Bool := (tAnd2 (tst (op2 sEq (rd 8) (op2 iMod (rd 2) (rd 7)))) (tAnd2 (tst (op2 iGt (vLen (vw 3)) (cst (.int 0)))) (tst (op2 iLt (ixV 3 (cst (.int 0))) (cst (.int 7))))))
def pCi : En → SOut := (sCons (sSet 12 (ixV 3 (cst (.int 0)))) (sCons (sIf (tAnd2 (tst (op2 sEq (rd 12) (cst (.int 6)))) (tst (op2 sEq (rd 7) (cst (.int 1))))) (sCons (sSet 12 (cst (.int 3))) sNil) sNil) (sCons (sIf (tst (op2 sEq (rd 9) (cst (.int 0)))) (sCons (sSet 9 (cst (.int 3))) sNil) sNil) (sCons (sSet 13 (cl1 (fnM 4 [] m__law_spoilt) (aC (rd 12) (aC (rd 9) (aC (rd 10) (aC (ixV 3 (cst (.int 1))) aN)))))) (sCons (sSet 11 (ix (rd 13) (cst (.int 0)))) (sCons (sSet 5 (op2 iAdd (rd 6) (ix (rd 13) (cst (.int 1))))) sNil))))))
theorem pC_eq : pC = sIf pCt pCi sNil := rfl
section
variable {zs : List Int} {p : Nat} {spot : Int} {q : List D} {es : List (List Nat)} {w L : Int} {s i : Nat} {x9 x10 x11 x12 x13 : Option O}
theorem md_run (hs : s ≠ 0) : tst (op2 sEq (rd 8) (op2 iMod (rd 2) (rd 7))) (sP zs p spot q es w L s (oI i) x9 x10 x11 x12 x13) = .ok (decide ((i : Int) = spot.fmod s)) (sP zs p spot q es w L s (oI i) x9 x10 x11 x12 x13) := by
  have e : op2 iMod (rd 2) (rd 7) (sP zs p spot q es w L s (oI i) x9 x10 x11 x12 x13) = .ok (.int (spot.fmod s)) (sP zs p spot q es w L s (oI i) x9 x10 x11 x12 x13) := by
    show opt (if decide ((s : Int) ≠ 0) then some (D.int (spot.fmod s)) else none) _ = _
    rw [if_pos (by rw [decide_eq_true_iff]; omega)]
    rfl
  unfold tst
  rw [op2]
  show Out.bind ((Out.ok (D.int i) _).bind fun x ρ => (op2 iMod (rd 2) (rd 7) ρ).bind fun y ρ => sEq x y ρ) _ = _
  simp only [Out.bind]
  rw [e]
  rfl
theorem pCt_run (hs : s ≠ 0) : pCt (sP zs p spot [] es w L s (oI i) x9 x10 x11 x12 x13) = .ok false (sP zs p spot [] es w L s (oI i) x9 x10 x11 x12 x13) := by
  unfold pCt tAnd2
  rw [md_run hs]
  simp only [Out.bind]
  cases decide ((i : Int) = spot.fmod s) <;> rfl
theorem pCt2_run {c f : Int} (hs : s ≠ 0) : pCt (sP zs p spot [.int c, .int f] es w L s (oI i) x9 x10 x11 x12 x13) = .ok (decide ((i : Int) = spot.fmod s) && decide (c < 7)) (sP zs p spot [.int c, .int f] es w L s (oI i) x9 x10 x11 x12 x13) := by
  unfold pCt
  unfold tAnd2
  rw [md_run hs]
  simp only [Out.bind]
  cases decide ((i : Int) = spot.fmod s) <;> rfl
/-- the drawn polynomial -/
def pq (zs : List Int) (p : Nat) : List Rat := (List.range (sz zs p)).map (xq zs p)
theorem pq_ok (zs : List Int) (p : Nat) : okP (pq zs p) ∧ pq zs p ≠ [] := by
  have sb := sz_b zs p
  refine ⟨⟨fun x hx => ?_, by unfold pq; simp; omega, ?_⟩, fun h => ?_⟩
  · obtain ⟨i, _, rfl⟩ := List.mem_map.mp hx
    exact xq_okx zs p i
  · obtain ⟨m, hm⟩ : ∃ m, sz zs p = m + 1 := ⟨sz zs p - 1, by omega⟩
    unfold pq
    rw [hm, List.range_succ, List.map_append, List.map_cons, List.map_nil, List.getLast?_concat]
    intro z
    exact xq_last zs p m hm.symm (Option.some.inj z)
  · have : (pq zs p).length = 0 := by rw [h]; rfl
    unfold pq at this
    simp at this
    omega
theorem tx_pq (zs : List Int) (p : Nat) : tx (esv (fun i => ft (xq zs p i)) (sz zs p)) = pt (pq zs p) := by
  unfold pt pq
  rw [List.map_map]
  rfl
theorem ftl (zs : List Int) (p i : Nat) : (ft (xq zs p i)).length ≤ 30 := by
  have := ft_len (xq_okx zs p i).q
  omega
theorem poly_plain (hp : p + 5 ≤ zs.length) (ρ : En) : fnM 4 [] m__law_poly [.lst (zs.map .int), .int p, .int spot, .lst []] ρ = .ok (.lst [.str (S (pt (pq zs p))), .int (-1)]) ρ := by
  have sb := sz_b zs p
  have z := poly_gen (zs := zs) (p := p) (spot := spot) (q := []) (fun i => ft (xq zs p i)) (fun _ => -1) (ftl zs p) hp rfl (fun i _ x12 x13 => ⟨_, _, _, by
    rw [pC_eq]
    exact sIf_f (pCt_run (by omega))⟩) (.inl rfl) ρ
  rw [tx_pq] at z
  exact z
theorem poly_7 {f : Int} (hp : p + 5 ≤ zs.length) (ρ : En) : fnM 4 [] m__law_poly [.lst (zs.map .int), .int p, .int spot, .lst [.int 7, .int f]] ρ = .ok (.lst [.str (S (pt (pq zs p ++ [0]))), .int ((pt (pq zs p ++ [0])).length : Nat)]) ρ := by
  have sb := sz_b zs p
  have z := poly_seven (zs := zs) (p := p) (spot := spot) (f := f) (fun i => ft (xq zs p i)) (fun _ => -1) (ftl zs p) hp rfl (fun i _ x12 x13 => ⟨_, _, _, by
    rw [pC_eq]
    refine sIf_f ((pCt2_run (by omega)).trans ?_)
    cases decide ((i : Int) = spot.fmod (sz zs p)) <;> rfl⟩) ρ
  have e : tx (esv (fun i => ft (xq zs p i)) (sz zs p) ++ [[48]]) = pt (pq zs p ++ [0]) := by
    have e0 : ft 0 = [48] := by decide +kernel
    unfold pt pq
    rw [List.map_append, List.map_map, List.map_cons, List.map_nil, e0]
    rfl
  rw [e] at z
  exact z
theorem pCi_run {c f : Nat} {num den : Int} {u : List Nat} {k : Nat}
    (h : ∀ ρ, fnM 4 [] m__law_spoilt [.int ((if c = 6 ∧ s = 1 then 3 else c : Nat) : Int), .int (if num = 0 then 3 else num), .int den, .int f] ρ = .ok (.lst [.str (S u), .int (k : Nat)]) ρ) :
    ∃ y9 y12 y13, pCi (sP zs p spot [.int c, .int f] es w L s (oI i) (oI num) (oI den) x11 x12 x13) = .nx (sP zs p spot [.int c, .int f] es (L + (k : Nat)) L s (oI i) y9 (oI den) (oT u) y12 y13) := by
  refine ⟨oI (if num = 0 then 3 else num), oI ((if c = 6 ∧ s = 1 then 3 else c : Nat) : Int), some (.im (.lst [.str (S u), .int (k : Nat)])), ?_⟩
  unfold pCi
  refine (sCons_nx (ρ1 := sP zs p spot [.int c, .int f] es w L s (oI i) (oI num) (oI den) x11 (oI c) x13) rfl).trans ?_
  refine (sCons_nx (ρ1 := sP zs p spot [.int c, .int f] es w L s (oI i) (oI num) (oI den) x11 (oI ((if c = 6 ∧ s = 1 then 3 else c : Nat) : Int)) x13) ?_).trans ?_
  · have t : (tAnd2 (tst (op2 sEq (rd 12) (cst (.int 6)))) (tst (op2 sEq (rd 7) (cst (.int 1))))) (sP zs p spot [.int c, .int f] es w L s (oI i) (oI num) (oI den) x11 (oI c) x13) = .ok (decide (c = 6 ∧ s = 1)) (sP zs p spot [.int c, .int f] es w L s (oI i) (oI num) (oI den) x11 (oI c) x13) := by
      have t1 : tst (op2 sEq (rd 12) (cst (.int 6))) (sP zs p spot [.int c, .int f] es w L s (oI i) (oI num) (oI den) x11 (oI c) x13) = .ok (decide ((c : Int) = 6)) (sP zs p spot [.int c, .int f] es w L s (oI i) (oI num) (oI den) x11 (oI c) x13) := rfl
      have t2 : tst (op2 sEq (rd 7) (cst (.int 1))) (sP zs p spot [.int c, .int f] es w L s (oI i) (oI num) (oI den) x11 (oI c) x13) = .ok (decide ((s : Int) = 1)) (sP zs p spot [.int c, .int f] es w L s (oI i) (oI num) (oI den) x11 (oI c) x13) := rfl
      unfold tAnd2
      rw [t1]
      by_cases h1 : c = 6
      · rw [decide_eq_true (show (c : Int) = 6 by omega)]
        simp only [Out.bind]
        rw [t2]
        by_cases h2 : s = 1
        · rw [decide_eq_true (show (s : Int) = 1 by omega), decide_eq_true ⟨h1, h2⟩]
        · rw [decide_eq_false (show ¬ (s : Int) = 1 by omega), decide_eq_false (fun z => h2 z.2)]
      · rw [decide_eq_false (show ¬ (c : Int) = 6 by omega), decide_eq_false (show ¬ (c = 6 ∧ s = 1) from fun z => h1 z.1)]
        rfl
    by_cases h1 : c = 6 ∧ s = 1
    · rw [decide_eq_true h1] at t
      rw [if_pos h1]
      exact sIf_t t
    · rw [decide_eq_false h1] at t
      rw [if_neg h1]
      exact sIf_f t
  generalize ((if c = 6 ∧ s = 1 then 3 else c : Nat)) = c' at *
  refine (sCons_nx (ρ1 := sP zs p spot [.int c, .int f] es w L s (oI i) (oI (if num = 0 then 3 else num)) (oI den) x11 (oI c') x13) ?_).trans ?_
  · have t : tst (op2 sEq (rd 9) (cst (.int 0))) (sP zs p spot [.int c, .int f] es w L s (oI i) (oI num) (oI den) x11 (oI c') x13) = .ok (decide (num = 0)) (sP zs p spot [.int c, .int f] es w L s (oI i) (oI num) (oI den) x11 (oI c') x13) := rfl
    by_cases h1 : num = 0
    · rw [decide_eq_true h1] at t
      rw [if_pos h1]
      exact sIf_t t
    · rw [decide_eq_false h1] at t
      rw [if_neg h1]
      exact sIf_f t
  generalize (if num = 0 then 3 else num) = n' at *
  refine (sCons_nx (ρ1 := sP zs p spot [.int c, .int f] es w L s (oI i) (oI n') (oI den) x11 (oI c') (some (.im (.lst [.str (S u), .int (k : Nat)])))) ?_).trans ?_
  · unfold sSet cl1
    show Out.st (fnM 4 [] m__law_spoilt [.int c', .int n', .int den, .int f] _) _ = _
    rw [h]
    rfl
  refine (sCons_nx (ρ1 := sP zs p spot [.int c, .int f] es w L s (oI i) (oI n') (oI den) (oT u) (oI c') (some (.im (.lst [.str (S u), .int (k : Nat)])))) rfl).trans ?_
  exact sNil_r rfl
end
theorem esv_split1 (T : Nat → List Nat) (j : Nat) : ∀ m, esv T (j + 1 + m) = esv T j ++ (T j :: (List.range m).map fun i => T (j + 1 + i))
  | 0 => by
    rw [Nat.add_zero, esv_succ]
    rfl
  | m + 1 => by
    rw [show j + 1 + (m + 1) = (j + 1 + m) + 1 by omega, esv_succ, esv_split1 T j m, List.range_succ, List.map_append, List.append_assoc]
    rfl
theorem esv_split (T : Nat → List Nat) {j n : Nat} (h : j < n) : esv T n = esv T j ++ (T j :: (List.range (n - j - 1)).map fun i => T (j + 1 + i)) := by
  have := esv_split1 T j (n - j - 1)
  rw [show j + 1 + (n - j - 1) = n by omega] at this
  exact this
theorem jb_split (B : List (List Nat)) (u : List Nat) (C : List (List Nat)) : jb (B ++ u :: C) = ld B ++ (u ++ jn C) := by
  cases B with
  | nil => simp [jb, ld]
  | cons b B =>
    rw [ld_cons]
    show b ++ jn (B ++ u :: C) = _
    rw [jn_app]
    simp [jn]
theorem jn_head (C : List (List Nat)) (h : C ≠ []) : ∃ r, jn C = 32 :: r := by
  cases C with
  | nil => exact absurd rfl h
  | cons t ts => exact ⟨_, rfl⟩
/-- _law_poly with a text that is not allowed -/
theorem poly_bad {zs : List Int} {p : Nat} {spot : Int} {c f : Nat} (hp : p + 5 ≤ zs.length) (hc : c ≤ 7) (hf : 2 ≤ f ∧ f ≤ 5) : ∃ (r : List Nat) (k : Nat), (∀ ρ, fnM 4 [] m__law_poly [.lst (zs.map .int), .int p, .int spot, .lst [.int c, .int f]] ρ = .ok (.lst [.str (S (91 :: r)), .int (k : Nat)]) ρ) ∧ r.length ≤ 200 ∧ ∀ post, Er m_poly_at (91 :: r) k post := by
  have sb := sz_b zs p
  by_cases h7 : c = 7
  · subst h7
    obtain ⟨ok, _⟩ := pq_ok zs p
    have hx : ∀ x ∈ pq zs p ++ [0], okq x := by
      intro x hx
      rcases List.mem_append.mp hx with h | h
      · exact (ok.1 x h).q
      · rw [List.mem_singleton.mp h]
        exact ⟨by decide, by decide⟩
    have l := pt_len _ hx
    have l4 := ok.2.1
    refine ⟨_, _, fun ρ => poly_7 hp ρ, ?_, fun post => poly_zero (pq zs p ++ [0]) hx (by simp; omega) (by simp) post⟩
    have : (pt (pq zs p ++ [0])).length = (jb ((pq zs p ++ [0]).map ft) ++ [93]).length + 1 := rfl
    rw [List.length_append, List.length_singleton] at l
    omega
  · obtain ⟨j, hj⟩ : ∃ j : Nat, (j : Int) = spot.fmod (sz zs p) := ⟨(spot.fmod (sz zs p)).toNat, by have := fmod_b spot (show (0 : Int) < (sz zs p : Nat) by omega); omega⟩
    have hjs : j < sz zs p := by have := fmod_b spot (show (0 : Int) < (sz zs p : Nat) by omega); omega
    have n := nd zs p j
    have n' : Nd (if nm zs p j = 0 then 3 else nm zs p j) (dn zs p j) := ⟨by split; · omega
                                                                             · exact n.n, n.d⟩
    obtain ⟨u, k, run, hu, hS, hne⟩ := spoilt_run (c := if c = 6 ∧ sz zs p = 1 then 3 else c) n' (by split <;> omega) hf (by split <;> omega)
    have hT : ∀ i, ((fun i => if i = j then u else ft (xq zs p i)) i).length ≤ 30 := by
      intro i
      show (if i = j then u else ft (xq zs p i)).length ≤ 30
      split
      · exact hu
      · exact ftl zs p i
    have z := fun ρ => poly_gen (zs := zs) (p := p) (spot := spot) (q := [.int c, .int f]) (fun i => if i = j then u else ft (xq zs p i)) (fun i => if i ≤ j then -1 else Lv (fun i => if i = j then u else ft (xq zs p i)) j + (k : Nat)) hT hp (by simp) (fun i _ x12 x13 => by
      rw [pC_eq]
      by_cases h : i = j
      · obtain ⟨y9, y12, y13, e⟩ := pCi_run (zs := zs) (p := p) (spot := spot) (es := esv (fun i => if i = j then u else ft (xq zs p i)) i) (w := if i ≤ j then -1 else Lv (fun i => if i = j then u else ft (xq zs p i)) j + (k : Nat)) (L := Lv (fun i => if i = j then u else ft (xq zs p i)) i) (s := sz zs p) (i := i) (x11 := oT (ft (xq zs p i))) (x12 := x12) (x13 := x13) run
        refine ⟨y9, y12, y13, (sIf_t ((pCt2_run (by omega)).trans ?_)).trans ?_⟩
        · rw [decide_eq_true (show (i : Int) = spot.fmod (sz zs p) by omega), decide_eq_true (show (c : Int) < 7 by omega)]
          rfl
        · subst h
          rw [if_neg (show ¬ i + 1 ≤ i by omega), if_pos (show i = i from rfl)]
          exact e
      · refine ⟨oI (nm zs p i), x12, x13, (sIf_f ((pCt2_run (by omega)).trans ?_)).trans ?_⟩
        · rw [decide_eq_false (show ¬ (i : Int) = spot.fmod (sz zs p) by omega)]
          rfl
        · have e : (if i ≤ j then (-1 : Int) else Lv (fun i => if i = j then u else ft (xq zs p i)) j + (k : Nat)) = (if i + 1 ≤ j then -1 else Lv (fun i => if i = j then u else ft (xq zs p i)) j + (k : Nat)) := by
            by_cases h1 : i + 1 ≤ j
            · rw [if_pos h1, if_pos (by omega)]
            · rw [if_neg h1, if_neg (by omega)]
          rw [e, if_neg h]
          rfl) (.inr ⟨c, f, rfl, by omega⟩) ρ
    simp only [if_neg (show ¬ sz zs p ≤ j by omega)] at z
    generalize hTT : (fun i => if i = j then u else ft (xq zs p i)) = T at *
    have Tj : T j = u := by rw [← hTT]; simp
    have es := esv_split T hjs
    have eB : esv T j = ((List.range j).map (xq zs p)).map ft := by
      rw [List.map_map]
      refine List.map_congr_left fun i hi => ?_
      have := List.mem_range.mp hi
      rw [← hTT]
      simp
      intro z
      omega
    have hB : ∀ x ∈ (List.range j).map (xq zs p), okq x := by
      intro x hx
      obtain ⟨i, _, rfl⟩ := List.mem_map.mp hx
      exact (xq_okx zs p i).q
    have hlen : (tx (esv T (sz zs p))).length ≤ 200 := by
      have := jb_le (es := esv T (sz zs p)) (fun t ht => by
        obtain ⟨i, _, rfl⟩ := List.mem_map.mp ht
        exact hT i)
      rw [esv_len] at this
      simp only [List.length_cons, List.length_append, List.length_nil]
      omega
    rw [es, Tj] at hlen
    refine ⟨jb (esv T j ++ (u :: (List.range (sz zs p - j - 1)).map fun i => T (j + 1 + i))) ++ [93], 1 + (ld (esv T j)).length + k, fun ρ => ?_, ?_, fun post => ?_⟩
    · rw [z ρ, es, Tj]
      congr 4
    · simp only [List.length_cons] at hlen
      omega
    · rw [jb_split, eB]
      generalize hC : (List.range (sz zs p - j - 1)).map (fun i => T (j + 1 + i)) = C
      have sp := hS ((List.range j).map (xq zs p)) ((jn C ++ [93]) ++ post) hB (by simp; omega) (by
        cases C with
        | nil => exact .inr rfl
        | cons t ts => exact .inl rfl) (by
        intro e1 e2
        have j0 : j = 0 := by
          have : ((List.range j).map (xq zs p)).length = 0 := by rw [e1]; rfl
          simpa using this
        have c6 : c = 6 ∧ ¬ sz zs p = 1 := by
          have : ¬ ((if c = 6 ∧ sz zs p = 1 then 3 else c) < 6) := fun z => hne z e2
          split at this <;> omega
        have : C ≠ [] := by
          intro e3
          have : C.length = 0 := by rw [e3]; rfl
          rw [← hC] at this
          simp at this
          omega
        obtain ⟨r, er⟩ := jn_head C this
        rw [er]
        rfl)
      have sp2 := Er.ext (t := 91 :: (ld (((List.range j).map (xq zs p)).map ft) ++ u)) (v := jn C ++ [93]) sp
      have ee : 91 :: (ld (((List.range j).map (xq zs p)).map ft) ++ (u ++ jn C) ++ [93]) = 91 :: (ld (((List.range j).map (xq zs p)).map ft) ++ u) ++ (jn C ++ [93]) := by simp
      rw [ee]
      exact sp2
end K98
namespace K98
open PySem PySem.Spec PyProof.Rows L2 Ce
/-! ### law: one side -/
def i1 : En → SOut := (sIf (tst (op2 iGt (rd 11) (cst (.int 0)))) (sCons (sSet 4 (op2 tAddS (rd 4) (cst (.str (PySem.Str.ofString " "))))) (sCons (sSet 5 (op2 tAddS (rd 5) (cst (.str (PySem.Str.ofString " "))))) sNil)) sNil)
def i2 : En → SOut := (sSet 12 (op2 iAdd (cst (.int 5)) (op2 iMul (cst (.int 7)) (rd 9))))
def i3 : En → SOut := (sSet 13 (cl1 (fnM 4 [] m__law_poly) (aC (rd 1) (aC (rd 12) (aC (cst (.int 0)) (aC (fz (nLst aN)) aN))))))
def i4 : En → SOut := (sSet 14 (rd 13))
def i5b : En → SOut := (sCons (sSet 14 (cl1 (fnM 4 [] m__law_poly) (aC (rd 1) (aC (rd 12) (aC (op2 iDiv (ixV 1 (cst (.int 1))) (cst (.int 4))) (aC (rd 3) aN)))))) (sCons (sSet 6 (op2 iAdd (cl1 (fun ds => opt (kLen ds)) (aC (rd 4) aN)) (ix (rd 14) (cst (.int 1))))) sNil))
def i5 : En → SOut := (sIf (tAnd2 (tst (op2 sEq (rd 9) (rd 8))) (tst (op2 iLt (rd 2) (cst (.int 8))))) i5b sNil)
def i6 : En → SOut := (sSet 4 (op2 tAddS (rd 4) (ix (rd 14) (cst (.int 0)))))
def i7 : En → SOut := (sSet 5 (op2 tAddS (rd 5) (ix (rd 13) (cst (.int 0)))))
def i8 : En → SOut := (sSet 9 (op2 iAdd (rd 9) (cst (.int 1))))
def iB : En → SOut := sCons i1 (sCons i2 (sCons i3 (sCons i4 (sCons i5 (sCons i6 (sCons i7 (sCons i8 sNil)))))))
theorem set_add {i : Nat} {A B : En → Out D} {u v : List Nat} {σ : En} (l : u.length + v.length ≤ 100000) (ha : A σ = .ok (.str (S u)) σ) (hb : B σ = .ok (.str (S v)) σ) : sSet i (op2 tAddS A B) σ = .nx (σ.set i (some (.im (.str (S (u ++ v)))))) := by
  unfold sSet
  rw [add_of l ha hb]
  rfl
abbrev lS (ns zs : List Int) (c : Nat) (x3 : Option O) (A W : List Nat) (w : Int) (n0 n1 t I : Nat) (x10 x11 x12 x13 x14 : Option O) : En := [zD ns, zD zs, oI c, x3, oT A, oT W, oI w, some (.ol [.int (n0 : Nat), .int (n1 : Nat)]), oI t, oI I, x10, x11, x12, x13, x14, none]
def q3 (c f : Nat) (x : Option O) : Prop := x = some (.ol [.int c, .int f]) ∨ x = some (.im (.lst [.int c, .int f]))
abbrev dP (u : List Nat) (k : Int) : Option O := some (.im (.lst [.str (S u), .int k]))
section
variable {ns zs : List Int} {c f : Nat} {x3 : Option O} {A W : List Nat} {w : Int} {n0 n1 t I : Nat} {x10 x11 x12 x13 x14 : Option O}
theorem i1_run {i : Nat} (hA : A.length ≤ 5000) (hW : W.length ≤ 5000) : i1 (lS ns zs c x3 A W w n0 n1 t I x10 (oI i) x12 x13 x14) = .nx (lS ns zs c x3 (if i = 0 then A else A ++ [32]) (if i = 0 then W else W ++ [32]) w n0 n1 t I x10 (oI i) x12 x13 x14) := by
  have tt : tst (op2 iGt (rd 11) (cst (.int 0))) (lS ns zs c x3 A W w n0 n1 t I x10 (oI i) x12 x13 x14) = .ok (decide ((i : Int) > 0)) (lS ns zs c x3 A W w n0 n1 t I x10 (oI i) x12 x13 x14) := rfl
  unfold i1
  by_cases h : i = 0
  · rw [if_pos h, if_pos h]
    rw [decide_eq_false (by omega)] at tt
    exact sIf_f tt
  · rw [if_neg h, if_neg h]
    rw [decide_eq_true (by omega)] at tt
    refine (sIf_t tt).trans ?_
    rw [s32]
    refine (sCons_nx (ρ1 := lS ns zs c x3 (A ++ [32]) W w n0 n1 t I x10 (oI i) x12 x13 x14) ?_).trans ?_
    · exact set_add (u := A) (v := [32]) (by simp; omega) rfl rfl
    · refine sNil_r ?_
      exact set_add (u := W) (v := [32]) (by simp; omega) rfl rfl
theorem i2_run (hI : I ≤ 10) : i2 (lS ns zs c x3 A W w n0 n1 t I x10 x11 x12 x13 x14) = .nx (lS ns zs c x3 A W w n0 n1 t I x10 x11 (oI ((5 + 7 * I : Nat) : Int)) x13 x14) := by
  have m : op2 iMul (cst (.int 7)) (rd 9) (lS ns zs c x3 A W w n0 n1 t I x10 x11 x12 x13 x14) = .ok (.int (7 * (I : Int))) (lS ns zs c x3 A W w n0 n1 t I x10 x11 x12 x13 x14) := by
    show opt (if mulOk 7 (I : Int) then some (D.int (7 * (I : Int))) else none) _ = _
    rw [if_pos (mulOk_nb (a := 3) (b := 4) (by unfold nb; omega) (by unfold nb; omega) (by omega))]
    rfl
  unfold i2 sSet
  rw [iadd_of (A := cst (.int 5)) (i := 5) rfl m, show (5 : Int) + 7 * (I : Int) = ((5 + 7 * I : Nat) : Int) by omega]
  rfl
theorem i3_run (hp : 5 + 7 * I + 5 ≤ zs.length) : i3 (lS ns zs c x3 A W w n0 n1 t I x10 x11 (oI ((5 + 7 * I : Nat) : Int)) x13 x14) = .nx (lS ns zs c x3 A W w n0 n1 t I x10 x11 (oI ((5 + 7 * I : Nat) : Int)) (dP (pt (pq zs (5 + 7 * I))) (-1)) x14) := by
  unfold i3 sSet cl1
  have z : decide (([] : List D).length ≤ sizeLine) = true := by rw [sizeLine_eq]; rfl
  have a : aC (rd 1) (aC (rd 12) (aC (cst (.int 0)) (aC (fz (nLst aN)) aN))) (lS ns zs c x3 A W w n0 n1 t I x10 x11 (oI ((5 + 7 * I : Nat) : Int)) x13 x14) = .ok [.lst (zs.map .int), .int ((5 + 7 * I : Nat) : Int), .int 0, .lst []] (lS ns zs c x3 A W w n0 n1 t I x10 x11 (oI ((5 + 7 * I : Nat) : Int)) x13 x14) := by
    simp only [aC, fz, nLst, aN, rd, cst, Out.bind, z, if_true, List.getElem?_cons_succ, List.getElem?_cons_zero]
  rw [a]
  show Out.st (fnM 4 [] m__law_poly [.lst (zs.map .int), .int ((5 + 7 * I : Nat) : Int), .int 0, .lst []] _) _ = _
  rw [poly_plain (by omega)]
  rfl
theorem i5_no (h : ¬ (I = t ∧ c < 8)) : i5 (lS ns zs c x3 A W w n0 n1 t I x10 x11 x12 x13 x14) = .nx (lS ns zs c x3 A W w n0 n1 t I x10 x11 x12 x13 x14) := by
  refine sIf_f ?_
  have t1 : tst (op2 sEq (rd 9) (rd 8)) (lS ns zs c x3 A W w n0 n1 t I x10 x11 x12 x13 x14) = .ok (decide ((I : Int) = t)) (lS ns zs c x3 A W w n0 n1 t I x10 x11 x12 x13 x14) := rfl
  have t2 : tst (op2 iLt (rd 2) (cst (.int 8))) (lS ns zs c x3 A W w n0 n1 t I x10 x11 x12 x13 x14) = .ok (decide ((c : Int) < 8)) (lS ns zs c x3 A W w n0 n1 t I x10 x11 x12 x13 x14) := rfl
  unfold tAnd2
  rw [t1]
  by_cases h1 : I = t
  · rw [decide_eq_true (show (I : Int) = t by omega)]
    simp only [Out.bind]
    rw [t2, decide_eq_false (show ¬ (c : Int) < 8 by omega)]
  · rw [decide_eq_false (show ¬ (I : Int) = t by omega)]
    rfl
theorem i5_yes {U : List Nat} {k : Nat} (hU : ∀ ρ, fnM 4 [] m__law_poly [.lst (zs.map .int), .int ((5 + 7 * t : Nat) : Int), .int ((zs.getD 1 0).fdiv 4), .lst [.int c, .int f]] ρ = .ok (.lst [.str (S U), .int (k : Nat)]) ρ) (h3 : q3 c f x3) (hl : 1 < zs.length) (hA : A.length ≤ 5000) (hI : I = t) (hc : c < 8) :
    i5 (lS ns zs c x3 A W w n0 n1 t I x10 x11 (oI ((5 + 7 * I : Nat) : Int)) x13 x14) = .nx (lS ns zs c (some (.im (.lst [.int c, .int f]))) A W ((A.length + k : Nat) : Int) n0 n1 t I x10 x11 (oI ((5 + 7 * I : Nat) : Int)) x13 (dP U k)) := by
  subst hI
  refine (sIf_t ?_).trans ?_
  · have t1 : tst (op2 sEq (rd 9) (rd 8)) (lS ns zs c x3 A W w n0 n1 I I x10 x11 (oI ((5 + 7 * I : Nat) : Int)) x13 x14) = .ok (decide ((I : Int) = I)) (lS ns zs c x3 A W w n0 n1 I I x10 x11 (oI ((5 + 7 * I : Nat) : Int)) x13 x14) := rfl
    have t2 : tst (op2 iLt (rd 2) (cst (.int 8))) (lS ns zs c x3 A W w n0 n1 I I x10 x11 (oI ((5 + 7 * I : Nat) : Int)) x13 x14) = .ok (decide ((c : Int) < 8)) (lS ns zs c x3 A W w n0 n1 I I x10 x11 (oI ((5 + 7 * I : Nat) : Int)) x13 x14) := rfl
    unfold tAnd2
    rw [t1, decide_eq_true rfl]
    simp only [Out.bind]
    rw [t2, decide_eq_true (by omega)]
  unfold i5b
  have dk : divOk 4 = true := by decide +kernel
  have e1 : op2 iDiv (ixV 1 (cst (.int 1))) (cst (.int 4)) (lS ns zs c x3 A W w n0 n1 I I x10 x11 (oI ((5 + 7 * I : Nat) : Int)) x13 x14) = .ok (.int ((zs.getD 1 0).fdiv 4)) (lS ns zs c x3 A W w n0 n1 I I x10 x11 (oI ((5 + 7 * I : Nat) : Int)) x13 x14) := by
    have e0 : ixV 1 (cst (.int 1)) (lS ns zs c x3 A W w n0 n1 I I x10 x11 (oI ((5 + 7 * I : Nat) : Int)) x13 x14) = .ok (.int (zs.getD 1 0)) (lS ns zs c x3 A W w n0 n1 I I x10 x11 (oI ((5 + 7 * I : Nat) : Int)) x13 x14) := by
      show opt (L2.atI (zs.map D.int) ((1 : Nat) : Int)) _ = _
      rw [at_zs hl]
      rfl
    rw [op2, e0]
    show opt (if divOk 4 then some (D.int ((zs.getD 1 0).fdiv 4)) else none) _ = _
    rw [if_pos dk]
    rfl
  have e3 : rd 3 (lS ns zs c x3 A W w n0 n1 I I x10 x11 (oI ((5 + 7 * I : Nat) : Int)) x13 x14) = .ok (.lst [.int c, .int f]) (lS ns zs c (some (.im (.lst [.int c, .int f]))) A W w n0 n1 I I x10 x11 (oI ((5 + 7 * I : Nat) : Int)) x13 x14) := by
    rcases h3 with rfl | rfl <;> rfl
  have a : aC (rd 1) (aC (rd 12) (aC (op2 iDiv (ixV 1 (cst (.int 1))) (cst (.int 4))) (aC (rd 3) aN))) (lS ns zs c x3 A W w n0 n1 I I x10 x11 (oI ((5 + 7 * I : Nat) : Int)) x13 x14) = .ok [.lst (zs.map .int), .int ((5 + 7 * I : Nat) : Int), .int ((zs.getD 1 0).fdiv 4), .lst [.int c, .int f]] (lS ns zs c (some (.im (.lst [.int c, .int f]))) A W w n0 n1 I I x10 x11 (oI ((5 + 7 * I : Nat) : Int)) x13 x14) := by
    have r1 : rd 1 (lS ns zs c x3 A W w n0 n1 I I x10 x11 (oI ((5 + 7 * I : Nat) : Int)) x13 x14) = .ok (.lst (zs.map .int)) (lS ns zs c x3 A W w n0 n1 I I x10 x11 (oI ((5 + 7 * I : Nat) : Int)) x13 x14) := rfl
    have r12 : rd 12 (lS ns zs c x3 A W w n0 n1 I I x10 x11 (oI ((5 + 7 * I : Nat) : Int)) x13 x14) = .ok (.int ((5 + 7 * I : Nat) : Int)) (lS ns zs c x3 A W w n0 n1 I I x10 x11 (oI ((5 + 7 * I : Nat) : Int)) x13 x14) := rfl
    rw [aC, r1]
    simp only [Out.bind]
    rw [aC, r12]
    simp only [Out.bind]
    rw [aC, e1]
    simp only [Out.bind]
    rw [aC, e3]
    rfl
  refine (sCons_nx (ρ1 := lS ns zs c (some (.im (.lst [.int c, .int f]))) A W w n0 n1 I I x10 x11 (oI ((5 + 7 * I : Nat) : Int)) x13 (dP U k)) ?_).trans ?_
  · unfold sSet cl1
    rw [a]
    show Out.st (fnM 4 [] m__law_poly _ _) _ = _
    rw [hU]
    rfl
  · refine sNil_r ?_
    unfold sSet
    rw [iadd_of (A := cl1 (fun ds => opt (kLen ds)) (aC (rd 4) aN)) (len_of (A := rd 4) (u := A) (by omega) rfl) (show ix (rd 14) (cst (.int 1)) (lS ns zs c (some (.im (.lst [.int c, .int f]))) A W w n0 n1 I I x10 x11 (oI ((5 + 7 * I : Nat) : Int)) x13 (dP U k)) = .ok (.int (k : Nat)) _ from rfl)]
    rfl
theorem i67_run {u v : List Nat} {k l : Int} (hA : A.length ≤ 6000) (hW : W.length ≤ 6000) (hu : u.length ≤ 1000) (hv : v.length ≤ 1000) : sCons i6 (sCons i7 (sCons i8 sNil)) (lS ns zs c x3 A W w n0 n1 t I x10 x11 x12 (dP v l) (dP u k)) = .nx (lS ns zs c x3 (A ++ u) (W ++ v) w n0 n1 t (I + 1) x10 x11 x12 (dP v l) (dP u k)) := by
  refine (sCons_nx (ρ1 := lS ns zs c x3 (A ++ u) W w n0 n1 t I x10 x11 x12 (dP v l) (dP u k)) ?_).trans ?_
  · exact set_add (u := A) (v := u) (by omega) rfl rfl
  refine (sCons_nx (ρ1 := lS ns zs c x3 (A ++ u) (W ++ v) w n0 n1 t I x10 x11 x12 (dP v l) (dP u k)) ?_).trans ?_
  · exact set_add (u := W) (v := v) (by omega) rfl rfl
  exact sNil_r rfl
end
end K98
namespace K98
open PySem PySem.Spec PyProof.Rows L2 Ce
/-- the spoilt polynomial, where one is -/
structure Sp (zs : List Int) (c f t : Nat) (U : List Nat) (kk : Nat) : Prop where
  run : c < 8 → ∀ ρ, fnM 4 [] m__law_poly [.lst (zs.map .int), .int ((5 + 7 * t : Nat) : Int), .int ((zs.getD 1 0).fdiv 4), .lst [.int c, .int f]] ρ = .ok (.lst [.str (S U), .int (kk : Nat)]) ρ
  len : U.length ≤ 201
/-- the texts as they are, and spoilt -/
def pP (zs : List Int) (j : Nat) : List Nat := pt (pq zs (5 + 7 * j))
def pU (zs : List Int) (c t : Nat) (U : List Nat) (j : Nat) : List Nat := if j = t ∧ c < 8 then U else pP zs j
theorem pP_len (zs : List Int) (j : Nat) : (pP zs j).length ≤ 201 := by
  obtain ⟨ok, _⟩ := pq_ok zs (5 + 7 * j)
  have := pt_len _ (fun x hx => (ok.1 x hx).q)
  have := ok.2.1
  unfold pP
  omega
theorem jb_ld (T : Nat → List Nat) (A : List Nat) (k : Nat) : (if k = 0 then A ++ jb (esv T k) else A ++ jb (esv T k) ++ [32]) = A ++ ld (esv T k) := by
  cases k with
  | zero => rfl
  | succ k =>
    rw [if_neg (by omega), List.append_assoc]
    congr 1
    have e : ∃ t ts, esv T (k + 1) = t :: ts := by
      cases h : esv T (k + 1) with
      | nil =>
        have := esv_len T (k + 1)
        rw [h] at this
        simp at this
      | cons t ts => exact ⟨t, ts, rfl⟩
    obtain ⟨t, ts, e⟩ := e
    rw [e, ld_cons]
    show t ++ jn ts ++ [32] = _
    simp
theorem jb_next (T : Nat → List Nat) (A : List Nat) (k : Nat) : A ++ ld (esv T k) ++ T k = A ++ jb (esv T (k + 1)) := by
  rw [esv_succ, jb_split, List.append_assoc]
  congr 2
  simp [jn]
theorem ld_le (T : Nat → List Nat) (hT : ∀ j, (T j).length ≤ 201) : ∀ k, (ld (esv T k)).length ≤ 202 * k
  | 0 => by simp [esv, ld]
  | k + 1 => by
    have := ld_le T hT k
    have := hT k
    rw [esv_succ, ld_len1]
    omega
theorem jb_le2 (T : Nat → List Nat) (hT : ∀ j, (T j).length ≤ 201) (k : Nat) : (jb (esv T k)).length ≤ 202 * k := by
  cases k with
  | zero => simp [esv, jb]
  | succ k =>
    have e := jb_next T [] k
    rw [List.nil_append, List.nil_append] at e
    rw [← e, List.length_append]
    have := ld_le T hT k
    have := hT k
    omega
section
variable {ns zs : List Int} {c f : Nat} {x3 : Option O} {A W U : List Nat} {w : Int} {n0 n1 t I kk n s : Nat} {x11 x12 x13 x14 : Option O}
def wQ (zs : List Int) (c t : Nat) (U : List Nat) (kk : Nat) (A : List Nat) (w : Int) (I k : Nat) : Int := if c < 8 ∧ I ≤ t ∧ t < I + k then (((A ++ ld (esv (fun j => pU zs c t U (I + j)) (t - I))).length + kk : Nat) : Int) else w
theorem inner (hs : Sp zs c f t U kk) (h3 : q3 c f x3) (hz : zs.length = 50) (hI : I + n ≤ 6) (hA : A.length ≤ 2000) (hW : W.length ≤ 2000)
    (hn : ixV 7 (rd 10) (lS ns zs c x3 A W w n0 n1 t I (oI s) x11 x12 x13 x14) = .ok (.int n) (lS ns zs c x3 A W w n0 n1 t I (oI s) x11 x12 x13 x14)) :
    ∃ y3 y11 y12 y13 y14, q3 c f y3 ∧ sFor (itR1 (aC (ixV 7 (rd 10)) aN)) (gN 11) iB (lS ns zs c x3 A W w n0 n1 t I (oI s) x11 x12 x13 x14) = .nx (lS ns zs c y3 (A ++ jb (esv (fun j => pU zs c t U (I + j)) n)) (W ++ jb (esv (fun j => pP zs (I + j)) n)) (wQ zs c t U kk A w I n) n0 n1 t (I + n) (oI s) y11 y12 y13 y14) := by
  have it : itR1 (aC (ixV 7 (rd 10)) aN) (lS ns zs c x3 A W w n0 n1 t I (oI s) x11 x12 x13 x14) = .ok (rngD 0 1 n) (lS ns zs c x3 A W w n0 n1 t I (oI s) x11 x12 x13 x14) := itR1_ok (j := (n : Int)) (by rw [aC, hn]; rfl) (inR_nat _ (by omega))
  have hU : ∀ j, ((fun j => pU zs c t U (I + j)) j).length ≤ 201 := by
    intro j
    show (if I + j = t ∧ c < 8 then U else pP zs (I + j)).length ≤ 201
    split
    · exact hs.len
    · exact pP_len _ _
  have hP : ∀ j, ((fun j => pP zs (I + j)) j).length ≤ 201 := fun j => pP_len _ _
  obtain ⟨ρ', e, y3, y11, y12, y13, y14, g3, e2⟩ := forL_inv (g := gN 11) (b := iB) (fun k ρ => ∃ y3 y11 y12 y13 y14, q3 c f y3 ∧ ρ = lS ns zs c y3 (A ++ jb (esv (fun j => pU zs c t U (I + j)) k)) (W ++ jb (esv (fun j => pP zs (I + j)) k)) (wQ zs c t U kk A w I k) n0 n1 t (I + k) (oI s) y11 y12 y13 y14) (rngD 0 1 n) 0 (lS ns zs c x3 A W w n0 n1 t I (oI s) x11 x12 x13 x14) ⟨x3, x11, x12, x13, x14, h3, by
      have e0 : wQ zs c t U kk A w I 0 = w := by
        unfold wQ
        rw [if_neg (by omega)]
      have e1 : A ++ jb (esv (fun j => pU zs c t U (I + j)) 0) = A := by simp [esv, jb]
      have e2 : W ++ jb (esv (fun j => pP zs (I + j)) 0) = W := by simp [esv, jb]
      rw [e0, e1, e2, Nat.add_zero]⟩ (by
    rintro i d ρ hi ⟨y3, y11, y12, y13, y14, g3, rfl⟩
    obtain ⟨hj, rfl⟩ := rng_at hi
    rw [Nat.zero_add, Int.zero_add]
    have l1 := jb_le2 _ hU i
    have l2 := jb_le2 _ hP i
    have l3 := ld_le _ hU i
    have l4 := ld_le _ hP i
    have s1 := i1_run (ns := ns) (zs := zs) (c := c) (x3 := y3) (A := A ++ jb (esv (fun j => pU zs c t U (I + j)) i)) (W := W ++ jb (esv (fun j => pP zs (I + j)) i)) (w := wQ zs c t U kk A w I i) (n0 := n0) (n1 := n1) (t := t) (I := I + i) (x10 := oI s) (x12 := y12) (x13 := y13) (x14 := y14) (i := i) (by rw [List.length_append]; omega) (by rw [List.length_append]; omega)
    rw [jb_ld, jb_ld] at s1
    by_cases hh : I + i = t ∧ c < 8
    · refine ⟨_, lS ns zs c (some (.im (.lst [.int c, .int f]))) (A ++ jb (esv (fun j => pU zs c t U (I + j)) (i + 1))) (W ++ jb (esv (fun j => pP zs (I + j)) (i + 1))) (wQ zs c t U kk A w I (i + 1)) n0 n1 t (I + (i + 1)) (oI s) (oI i) (oI ((5 + 7 * (I + i) : Nat) : Int)) (dP (pP zs (I + i)) (-1)) (dP U kk), rfl, ?_, some (.im (.lst [.int c, .int f])), oI i, (oI ((5 + 7 * (I + i) : Nat) : Int)), (dP (pP zs (I + i)) (-1)), (dP U kk), .inr rfl, rfl⟩
      unfold iB
      refine (sCons_nx s1).trans ?_
      rw [sCons_nx (i2_run (by omega)), sCons_nx (i3_run (by omega))]
      refine (sCons_nx (ρ1 := lS ns zs c y3 (A ++ ld (esv (fun j => pU zs c t U (I + j)) i)) (W ++ ld (esv (fun j => pP zs (I + j)) i)) (wQ zs c t U kk A w I i) n0 n1 t (I + i) (oI s) (oI i) (oI ((5 + 7 * (I + i) : Nat) : Int)) (dP (pP zs (I + i)) (-1)) (dP (pP zs (I + i)) (-1))) rfl).trans ?_
      rw [sCons_nx (i5_yes (hs.run hh.2) g3 (by omega) (by rw [List.length_append]; omega) hh.1 hh.2)]
      rw [i67_run (by rw [List.length_append]; omega) (by rw [List.length_append]; omega) (by have := hs.len; omega) (by have := pP_len zs (I + i); omega)]
      have a1 : A ++ ld (esv (fun j => pU zs c t U (I + j)) i) ++ U = A ++ jb (esv (fun j => pU zs c t U (I + j)) (i + 1)) := by
        rw [← jb_next]
        congr 1
        show U = if I + i = t ∧ c < 8 then U else pP zs (I + i)
        rw [if_pos hh]
      have a2 : W ++ ld (esv (fun j => pP zs (I + j)) i) ++ pP zs (I + i) = W ++ jb (esv (fun j => pP zs (I + j)) (i + 1)) := jb_next _ _ _
      have a3 : wQ zs c t U kk A w I (i + 1) = (((A ++ ld (esv (fun j => pU zs c t U (I + j)) i)).length + kk : Nat) : Int) := by
        unfold wQ
        rw [if_pos ⟨hh.2, by omega, by omega⟩, show t - I = i by omega]
      rw [a1, a2, a3]
      rfl
    · refine ⟨_, lS ns zs c y3 (A ++ jb (esv (fun j => pU zs c t U (I + j)) (i + 1))) (W ++ jb (esv (fun j => pP zs (I + j)) (i + 1))) (wQ zs c t U kk A w I (i + 1)) n0 n1 t (I + (i + 1)) (oI s) (oI i) (oI ((5 + 7 * (I + i) : Nat) : Int)) (dP (pP zs (I + i)) (-1)) (dP (pP zs (I + i)) (-1)), rfl, ?_, y3, oI i, (oI ((5 + 7 * (I + i) : Nat) : Int)), (dP (pP zs (I + i)) (-1)), (dP (pP zs (I + i)) (-1)), g3, rfl⟩
      unfold iB
      refine (sCons_nx s1).trans ?_
      rw [sCons_nx (i2_run (by omega)), sCons_nx (i3_run (by omega))]
      refine (sCons_nx (ρ1 := lS ns zs c y3 (A ++ ld (esv (fun j => pU zs c t U (I + j)) i)) (W ++ ld (esv (fun j => pP zs (I + j)) i)) (wQ zs c t U kk A w I i) n0 n1 t (I + i) (oI s) (oI i) (oI ((5 + 7 * (I + i) : Nat) : Int)) (dP (pP zs (I + i)) (-1)) (dP (pP zs (I + i)) (-1))) rfl).trans ?_
      rw [sCons_nx (i5_no hh)]
      rw [i67_run (by rw [List.length_append]; omega) (by rw [List.length_append]; omega) (by have := pP_len zs (I + i); omega) (by have := pP_len zs (I + i); omega)]
      have a1 : A ++ ld (esv (fun j => pU zs c t U (I + j)) i) ++ pP zs (I + i) = A ++ jb (esv (fun j => pU zs c t U (I + j)) (i + 1)) := by
        rw [← jb_next]
        congr 1
        show pP zs (I + i) = if I + i = t ∧ c < 8 then U else pP zs (I + i)
        rw [if_neg hh]
      have a2 : W ++ ld (esv (fun j => pP zs (I + j)) i) ++ pP zs (I + i) = W ++ jb (esv (fun j => pP zs (I + j)) (i + 1)) := jb_next _ _ _
      have a3 : wQ zs c t U kk A w I (i + 1) = wQ zs c t U kk A w I i := by
        unfold wQ
        by_cases z : c < 8 ∧ I ≤ t ∧ t < I + i
        · rw [if_pos z, if_pos ⟨z.1, z.2.1, by omega⟩]
        · rw [if_neg z, if_neg]
          rintro ⟨z1, z2, z3⟩
          exact z ⟨z1, z2, by omega⟩
      rw [a1, a2, a3]
      rfl)
  rw [rngD_len, Nat.zero_add] at e2
  refine ⟨y3, y11, y12, y13, y14, g3, ?_⟩
  unfold sFor
  rw [it]
  show forL _ _ _ _ = _
  rw [e, e2]
end
end K98
namespace K98
open PySem PySem.Spec PyProof.Rows L2 Ce
def o1 : En → SOut := (sSet 4 (op2 tAddS (rd 4) (cst (.str (PySem.Str.ofString " <")))))
def o2 : En → SOut := (sSet 5 (op2 tAddS (rd 5) (cst (.str (PySem.Str.ofString " <")))))
def o8 : En → SOut := (sIf (tAnd2 (tst (op2 sEq (rd 2) (cst (.int 8)))) (tst (op2 sEq (rd 10) (op2 iMod (rd 8) (cst (.int 2)))))) (sCons (sSet 4 (op2 tAddS (rd 4) (cst (.str (PySem.Str.ofString " []"))))) (sCons (sSet 6 (op2 iAdd (cl1 (fun ds => opt (kLen ds)) (aC (rd 4) aN)) (cst (.int 1)))) sNil)) sNil)
def o9 : En → SOut := (sIf (tAnd2 (tst (op2 sEq (rd 2) (cst (.int 9)))) (tst (op2 sEq (rd 10) (op2 iMod (rd 8) (cst (.int 2)))))) (sCons (sSet 4 (op2 tAddS (rd 4) (cst (.str (PySem.Str.ofString " "))))) (sCons (sSet 6 (cl1 (fun ds => opt (kLen ds)) (aC (rd 4) aN))) sNil)) sNil)
def o10 : En → SOut := (sSet 4 (op2 tAddS (rd 4) (cst (.str (PySem.Str.ofString ">")))))
def o11 : En → SOut := (sSet 5 (op2 tAddS (rd 5) (cst (.str (PySem.Str.ofString ">")))))
def oL : En → SOut := sFor (itR1 (aC (ixV 7 (rd 10)) aN)) (gN 11) iB
def oB : En → SOut := sCons o1 (sCons o2 (sCons oL (sCons o8 (sCons o9 (sCons o10 (sCons o11 sNil))))))
theorem sLt : PySem.Str.ofString " <" = S [32, 60] := by decide +kernel
theorem sNo : PySem.Str.ofString " []" = S [32, 91, 93] := by decide +kernel
section
variable {ns zs : List Int} {c f : Nat} {x3 : Option O} {A W U : List Nat} {w : Int} {n0 n1 t I kk n s : Nat} {x11 x12 x13 x14 : Option O}
theorem md2 : tst (op2 sEq (rd 10) (op2 iMod (rd 8) (cst (.int 2)))) (lS ns zs c x3 A W w n0 n1 t I (oI s) x11 x12 x13 x14) = .ok (decide (s = t % 2)) (lS ns zs c x3 A W w n0 n1 t I (oI s) x11 x12 x13 x14) := by
  show Out.ok (decide ((s : Int) = (t : Int).fmod 2)) _ = _
  have e : ((s : Int) = (t : Int).fmod 2) ↔ s = t % 2 := by
    rw [Int.fmod_eq_emod_of_nonneg _ (by omega)]
    omega
  rw [decide_eq_decide.mpr e]
theorem cnd {i : Nat} : (tAnd2 (tst (op2 sEq (rd 2) (cst (.int i)))) (tst (op2 sEq (rd 10) (op2 iMod (rd 8) (cst (.int 2)))))) (lS ns zs c x3 A W w n0 n1 t I (oI s) x11 x12 x13 x14) = .ok (decide (c = i ∧ s = t % 2)) (lS ns zs c x3 A W w n0 n1 t I (oI s) x11 x12 x13 x14) := by
  have t1 : tst (op2 sEq (rd 2) (cst (.int i))) (lS ns zs c x3 A W w n0 n1 t I (oI s) x11 x12 x13 x14) = .ok (decide ((c : Int) = i)) (lS ns zs c x3 A W w n0 n1 t I (oI s) x11 x12 x13 x14) := rfl
  unfold tAnd2
  rw [t1]
  by_cases h : c = i
  · rw [decide_eq_true (show (c : Int) = i by omega)]
    simp only [Out.bind]
    rw [md2]
    simp [h]
  · rw [decide_eq_false (show ¬ (c : Int) = i by omega)]
    simp [Out.bind, h]
/-- what is put behind the last polynomial of a side -/
def xS (c t s : Nat) : List Nat := if c = 8 ∧ s = t % 2 then [32, 91, 93] else if c = 9 ∧ s = t % 2 then [32] else []
def xW (c t s : Nat) (A : List Nat) (w : Int) : Int := if c = 8 ∧ s = t % 2 then ((A.length + 4 : Nat) : Int) else if c = 9 ∧ s = t % 2 then ((A.length + 1 : Nat) : Int) else w
theorem o89 (hA : A.length ≤ 9000) {g : En → SOut} : sCons o8 (sCons o9 g) (lS ns zs c x3 A W w n0 n1 t I (oI s) x11 x12 x13 x14) = g (lS ns zs c x3 (A ++ xS c t s) W (xW c t s A w) n0 n1 t I (oI s) x11 x12 x13 x14) := by
  unfold xS xW
  by_cases h8 : c = 8 ∧ s = t % 2
  · rw [if_pos h8, if_pos h8]
    refine (sCons_nx (ρ1 := lS ns zs c x3 (A ++ [32, 91, 93]) W ((A.length + 4 : Nat) : Int) n0 n1 t I (oI s) x11 x12 x13 x14) ?_).trans ?_
    · refine (sIf_t ((cnd (i := 8)).trans (by rw [decide_eq_true h8]))).trans ?_
      rw [sNo]
      refine (sCons_nx (ρ1 := lS ns zs c x3 (A ++ [32, 91, 93]) W w n0 n1 t I (oI s) x11 x12 x13 x14) (set_add (u := A) (v := [32, 91, 93]) (by simp; omega) rfl rfl)).trans ?_
      refine sNil_r ?_
      unfold sSet
      rw [iadd_of (A := cl1 (fun ds => opt (kLen ds)) (aC (rd 4) aN)) (B := cst (.int 1)) (σ := lS ns zs c x3 (A ++ [32, 91, 93]) W w n0 n1 t I (oI s) x11 x12 x13 x14) (j := 1) (len_of (A := rd 4) (u := A ++ [32, 91, 93]) (by simp; omega) rfl) rfl, List.length_append]
      rfl
    · refine sCons_nx ?_
      exact sIf_f ((cnd (i := 9)).trans (by rw [decide_eq_false (by omega)]))
  · rw [if_neg h8, if_neg h8]
    refine (sCons_nx (ρ1 := lS ns zs c x3 A W w n0 n1 t I (oI s) x11 x12 x13 x14) (sIf_f ((cnd (i := 8)).trans (by rw [decide_eq_false h8])))).trans ?_
    by_cases h9 : c = 9 ∧ s = t % 2
    · rw [if_pos h9, if_pos h9]
      refine sCons_nx ?_
      refine (sIf_t ((cnd (i := 9)).trans (by rw [decide_eq_true h9]))).trans ?_
      rw [s32]
      refine (sCons_nx (ρ1 := lS ns zs c x3 (A ++ [32]) W w n0 n1 t I (oI s) x11 x12 x13 x14) (set_add (u := A) (v := [32]) (by simp; omega) rfl rfl)).trans ?_
      refine sNil_r ?_
      unfold sSet
      rw [len_of (A := rd 4) (u := A ++ [32]) (σ := lS ns zs c x3 (A ++ [32]) W w n0 n1 t I (oI s) x11 x12 x13 x14) (by simp; omega) rfl, List.length_append]
      rfl
    · rw [if_neg h9, if_neg h9, List.append_nil]
      exact sCons_nx (sIf_f ((cnd (i := 9)).trans (by rw [decide_eq_false h9])))
theorem side (hs : Sp zs c f t U kk) (h3 : q3 c f x3) (hz : zs.length = 50) (hI : I + n ≤ 6) (hA : A.length ≤ 1900) (hW : W.length ≤ 1900)
    (hn : ∀ A W, ixV 7 (rd 10) (lS ns zs c x3 A W w n0 n1 t I (oI s) x11 x12 x13 x14) = .ok (.int n) (lS ns zs c x3 A W w n0 n1 t I (oI s) x11 x12 x13 x14)) :
    ∃ y3 y11 y12 y13 y14, q3 c f y3 ∧ oB (lS ns zs c x3 A W w n0 n1 t I (oI s) x11 x12 x13 x14) = .nx (lS ns zs c y3 (A ++ [32, 60] ++ jb (esv (fun j => pU zs c t U (I + j)) n) ++ xS c t s ++ [62]) (W ++ [32, 60] ++ jb (esv (fun j => pP zs (I + j)) n) ++ [62]) (xW c t s (A ++ [32, 60] ++ jb (esv (fun j => pU zs c t U (I + j)) n)) (wQ zs c t U kk (A ++ [32, 60]) w I n)) n0 n1 t (I + n) (oI s) y11 y12 y13 y14) := by
  obtain ⟨y3, y11, y12, y13, y14, g3, e⟩ := inner (ns := ns) (A := A ++ [32, 60]) (W := W ++ [32, 60]) (w := w) (n0 := n0) (n1 := n1) (s := s) (x11 := x11) (x12 := x12) (x13 := x13) (x14 := x14) hs h3 hz hI (by simp; omega) (by simp; omega) (hn _ _)
  have hU : ∀ j, ((fun j => pU zs c t U (I + j)) j).length ≤ 201 := by
    intro j
    show (if I + j = t ∧ c < 8 then U else pP zs (I + j)).length ≤ 201
    split
    · exact hs.len
    · exact pP_len _ _
  have hP : ∀ j, ((fun j => pP zs (I + j)) j).length ≤ 201 := fun j => pP_len _ _
  have l1 := jb_le2 _ hU n
  have l2 := jb_le2 _ hP n
  have lx : (xS c t s).length ≤ 3 := by
    unfold xS
    split
    · simp
    · split <;> simp
  refine ⟨y3, y11, y12, y13, y14, g3, ?_⟩
  unfold oB
  refine (sCons_nx (ρ1 := lS ns zs c x3 (A ++ [32, 60]) W w n0 n1 t I (oI s) x11 x12 x13 x14) ?_).trans ?_
  · unfold o1
    rw [sLt]
    exact set_add (u := A) (v := [32, 60]) (by simp; omega) rfl rfl
  refine (sCons_nx (ρ1 := lS ns zs c x3 (A ++ [32, 60]) (W ++ [32, 60]) w n0 n1 t I (oI s) x11 x12 x13 x14) ?_).trans ?_
  · unfold o2
    rw [sLt]
    exact set_add (u := W) (v := [32, 60]) (by simp; omega) rfl rfl
  refine (sCons_nx e).trans ?_
  rw [o89 (by simp only [List.length_append, List.length_cons, List.length_nil]; omega)]
  have la : (A ++ [32, 60] ++ jb (esv (fun j => pU zs c t U (I + j)) n) ++ xS c t s).length ≤ 5000 := by
    simp only [List.length_append, List.length_cons, List.length_nil]
    omega
  have lb : (W ++ [32, 60] ++ jb (esv (fun j => pP zs (I + j)) n)).length ≤ 5000 := by
    simp only [List.length_append, List.length_cons, List.length_nil]
    omega
  generalize xW c t s (A ++ [32, 60] ++ jb (esv (fun j => pU zs c t U (I + j)) n)) (wQ zs c t U kk (A ++ [32, 60]) w I n) = w3
  generalize A ++ [32, 60] ++ jb (esv (fun j => pU zs c t U (I + j)) n) ++ xS c t s = A3 at *
  generalize W ++ [32, 60] ++ jb (esv (fun j => pP zs (I + j)) n) = W3 at *
  refine (sCons_nx (ρ1 := lS ns zs c y3 (A3 ++ [62]) W3 w3 n0 n1 t (I + n) (oI s) y11 y12 y13 y14) ?_).trans ?_
  · unfold o10
    rw [s62]
    exact set_add (u := A3) (v := [62]) (by simp; omega) rfl rfl
  · refine sNil_r ?_
    unfold o11
    rw [s62]
    exact set_add (u := W3) (v := [62]) (by simp; omega) rfl rfl
end
end K98
namespace K98
open PySem PySem.Spec PyProof.Rows L2 Ce
theorem fm (x m : Int) (h : 0 < m) : 0 ≤ x.fmod m ∧ x.fmod m < m := fmod_b x h
def bNa : En → SOut := (sCons (sApp 4 (op2 iMod (rd 2) (cst (.int 1000000)))) (sCons (sSet 2 (op2 iDiv (rd 2) (cst (.int 1000000)))) sNil))
def bNi : En → SOut := (sIf (tst (op2 iGt (vLen (vw 0)) (cst (.int 0)))) (sCons (sSet 6 (op2 iAdd (ixV 0 (op2 iMod (rd 5) (vLen (vw 0)))) (op2 iMul (cst (.int 7919)) (rd 5)))) sNil) sNil)
def bNc : En → SOut := (sApp 4 (op2 iMod (op2 iMod (op2 iMul (op2 iMod (op2 iMul (rd 6) (cst (.int 48271))) (cst (.int 2147483647))) (cst (.int 69621))) (cst (.int 2147483629))) (cst (.int 1000000))))
def bN : En → SOut := (sCons (sIf (tAnd2 (tst (rd 3)) (tst (op2 iGt (rd 2) (cst (.int 0))))) bNa (sCons (sSet 6 (cst (.int 13))) (sCons bNi (sCons bNc sNil)))) sNil)
theorem nb_bits {z : Int} (h : Builtin.Int.intBits z ≤ 1048576) : nb z 1048576 := by
  unfold Builtin.Int.intBits at h
  unfold nb
  by_cases e : z = 0
  · subst e
    exact Nat.zero_le _
  · rw [if_neg (by simpa using e)] at h
    exact Nat.le_of_lt ((Nat.log2_lt (by omega)).mp (by omega))
theorem cell_run (ns : List Int) (hl : ns.length ≤ 63) (hz : ∀ z ∈ ns, Builtin.Int.intBits z ≤ 1048576) (k : Nat) (hk : k < 500) (x1 x2 x3 x4 : Option O) : ∃ c, nb c 1048577 ∧ bNi [some (.im (.lst (ns.map .int))), x1, x2, x3, x4, some (.im (.int k)), some (.im (.int 13))] = .nx [some (.im (.lst (ns.map .int))), x1, x2, x3, x4, some (.im (.int k)), some (.im (.int c))] := by
  by_cases h : ns = []
  · subst h
    exact ⟨13, by unfold nb; have : 2 ^ 4 ≤ 2 ^ 1048577 := Nat.pow_le_pow_right (by omega) (by omega); exact Nat.le_trans (by decide) this, rfl⟩
  · have hp : 0 < ns.length := List.length_pos_iff.mpr h
    have hlt : k % ns.length < ns.length := Nat.mod_lt _ hp
    have d1 : divOk (ns.length : Int) = true := divOk_nb (b := 6) (by omega) (by unfold nb; omega) (by omega)
    have m1 : mulOk 7919 (k : Int) = true := mulOk_nb (a := 13) (b := 9) (by unfold nb; decide) (by unfold nb; omega) (by omega)
    have e : L2.atI (ns.map D.int) ((k : Int).fmod (ns.length : Int)) = some (.int ns[k % ns.length]) := by
      rw [Int.fmod_eq_emod_of_nonneg _ (by omega), ← Int.natCast_emod, Ce.atI_nat]
      simp [hlt]
    refine ⟨ns[k % ns.length] + 7919 * k, ?_, ?_⟩
    · have b1 := nb_bits (hz _ (List.getElem_mem hlt))
      have b2 : nb (7919 * (k : Int)) 1048576 := by
        have : nb (7919 * (k : Int)) 30 := by unfold nb; omega
        exact this.mono (by omega)
      exact b1.add b2
    · have g : (0 : Int) < (ns.length : Int) := by omega
      simp [bNi, sIf, tst, op2, iGt, vLen, vw, cst, ii, opt, Out.bind, Out.st, hp, sCons, sSet, ixV, iMod, iAdd, iMul, rd, d1, m1, e, h, SOut.sq, sNil]
theorem bN_run (ns : List Int) (hl : ns.length ≤ 63) (hz : ∀ z ∈ ns, Builtin.Int.intBits z ≤ 1048576) (k : Nat) (hk : k < 500) (r : Int) (f : Bool) (zs : List Int) (hs : zs.length ≤ 500) (x1 x6 : Option O) :
    ∃ r' z y6, (0 ≤ z ∧ z < 1000000) ∧ bN [some (.im (.lst (ns.map .int))), x1, some (.im (.int r)), some (.im (.bl f)), some (.ol (zs.map .int)), some (.im (.int k)), x6] = .nx [some (.im (.lst (ns.map .int))), x1, some (.im (.int r')), some (.im (.bl f)), some (.ol ((zs ++ [z]).map .int)), some (.im (.int k)), y6] := by
  have s1 : zs.length < sizeLine := by rw [sizeLine_eq]; omega
  have d6 : divOk 1000000 = true := by decide
  have d7 : divOk 2147483647 = true := by decide
  have d8 : divOk 2147483629 = true := by decide
  by_cases h : f = true ∧ 0 < r
  · obtain ⟨rfl, h⟩ := h
    refine ⟨r.fdiv 1000000, r.fmod 1000000, x6, fm r _ (by omega), ?_⟩
    unfold bN
    refine sNil_r ?_
    simp [sIf, tAnd2, tst, op2, iGt, rd, cst, ii, opt, Out.bind, Out.st, h, bNa, sCons, sSet, sApp, iMod, iDiv, d6, vw, s1, SOut.sq, sNil]
  · obtain ⟨c, nc, ec⟩ := cell_run ns hl hz k hk x1 (some (.im (.int r))) (some (.im (.bl f))) (some (.ol (zs.map .int)))
    have b1 := fm (c * 48271) 2147483647 (by omega)
    refine ⟨r, (((c * 48271).fmod 2147483647 * 69621).fmod 2147483629).fmod 1000000, some (.im (.int c)), fm _ _ (by omega), ?_⟩
    have m1 : mulOk c 48271 = true := mulOk_nb (b := 16) nc (by unfold nb; decide) (by omega)
    have m2 : mulOk ((c * 48271).fmod 2147483647) 69621 = true := mulOk_nb (a := 31) (b := 17) (by unfold nb; omega) (by unfold nb; decide) (by omega)
    have t : tAnd2 (tst (rd 3)) (tst (op2 iGt (rd 2) (cst (.int 0)))) [some (.im (.lst (ns.map .int))), x1, some (.im (.int r)), some (.im (.bl f)), some (.ol (zs.map .int)), some (.im (.int k)), x6] = .ok false [some (.im (.lst (ns.map .int))), x1, some (.im (.int r)), some (.im (.bl f)), some (.ol (zs.map .int)), some (.im (.int k)), x6] := by
      cases f with
      | false => rfl
      | true =>
        have h' : ¬ 0 < r := fun z => h ⟨rfl, z⟩
        simp [tAnd2, tst, op2, iGt, rd, cst, ii, opt, Out.bind, h']
    have e3 : bNc [some (.im (.lst (ns.map .int))), x1, some (.im (.int r)), some (.im (.bl f)), some (.ol (zs.map .int)), some (.im (.int k)), some (.im (.int c))] = .nx [some (.im (.lst (ns.map .int))), x1, some (.im (.int r)), some (.im (.bl f)), some (.ol ((zs ++ [(((c * 48271).fmod 2147483647 * 69621).fmod 2147483629).fmod 1000000]).map .int)), some (.im (.int k)), some (.im (.int c))] := by
      simp [bNc, sApp, op2, rd, cst, iMod, iMul, ii, opt, Out.bind, Out.st, vw, s1, m1, m2, d6, d7, d8]
    unfold bN
    refine sNil_r ?_
    unfold sIf
    rw [t]
    show (sCons (sSet 6 (cst (.int 13))) (sCons bNi (sCons bNc sNil))) _ = _
    refine (sCons_nx (ρ1 := [some (.im (.lst (ns.map .int))), x1, some (.im (.int r)), some (.im (.bl f)), some (.ol (zs.map .int)), some (.im (.int k)), some (.im (.int 13))]) rfl).trans ?_
    rw [sCons_nx ec]
    exact sNil_r e3
theorem numbers_run (ns : List Int) (hl : ns.length ≤ 63) (hz : ∀ z ∈ ns, Builtin.Int.intBits z ≤ 1048576) (n : Nat) (hn : n ≤ 500) : ∃ zs : List Int, zs.length = n ∧ (∀ z ∈ zs, 0 ≤ z ∧ z < 1000000) ∧ ∀ ρ, fnM 2 [] m__law_numbers [.lst (ns.map .int), .int n] ρ = .ok (.lst (zs.map .int)) ρ := by
  obtain ⟨r, e2⟩ : ∃ r, (sIf (tst (op2 iGt (vLen (vw 0)) (cst (.int 0)))) (sCons (sSet 2 (ixV 0 (cst (.int 0)))) sNil) sNil) [some (.im (.lst (ns.map .int))), some (.im (.int n)), some (.im (.int 0)), none, none, none, none] = .nx [some (.im (.lst (ns.map .int))), some (.im (.int n)), some (.im (.int r)), none, none, none, none] := by
    cases ns with
    | nil => exact ⟨0, rfl⟩
    | cons z ns =>
      refine ⟨z, ?_⟩
      have g : (0 : Int) < (ns.length : Int) + 1 := by omega
      simp [sIf, tst, op2, iGt, vLen, vw, cst, ii, opt, Out.bind, Out.st, sCons, sSet, ixV, rd, SOut.sq, sNil, g, L2.atI, L2.ixN]
  have e3 : (sSet 3 (op2 iGe (rd 2) (op2 iPow (cst (.int 10)) (cst (.int 18))))) [some (.im (.lst (ns.map .int))), some (.im (.int n)), some (.im (.int r)), none, none, none, none] = .nx [some (.im (.lst (ns.map .int))), some (.im (.int n)), some (.im (.int r)), some (.im (.bl (decide (r ≥ 1000000000000000000)))), none, none, none] := by rfl
  have e4 : (sSetN 4 (nLst aN)) [some (.im (.lst (ns.map .int))), some (.im (.int n)), some (.im (.int r)), some (.im (.bl (decide (r ≥ 1000000000000000000)))), none, none, none] = .nx [some (.im (.lst (ns.map .int))), some (.im (.int n)), some (.im (.int r)), some (.im (.bl (decide (r ≥ 1000000000000000000)))), some (.ol []), none, none] := by rfl
  generalize decide (r ≥ 1000000000000000000) = f at e3 e4
  have e5 : itR1 (aC (rd 1) aN) [some (.im (.lst (ns.map .int))), some (.im (.int n)), some (.im (.int r)), some (.im (.bl f)), some (.ol []), none, none] = .ok (rngD 0 1 n) [some (.im (.lst (ns.map .int))), some (.im (.int n)), some (.im (.int r)), some (.im (.bl f)), some (.ol []), none, none] := itR1_ok (j := (n : Int)) rfl (inR_nat n (by omega))
  obtain ⟨ρ', e6, r', zs, x5, x6, l1, l2, e7⟩ := forL_inv (g := gN 5) (b := bN) (fun k ρ => ∃ (r' : Int) (zs : List Int) (x5 x6 : Option O), zs.length = k ∧ (∀ z ∈ zs, 0 ≤ z ∧ z < 1000000) ∧ ρ = [some (.im (.lst (ns.map .int))), some (.im (.int n)), some (.im (.int r')), some (.im (.bl f)), some (.ol (zs.map .int)), x5, x6]) (rngD 0 1 n) 0 [some (.im (.lst (ns.map .int))), some (.im (.int n)), some (.im (.int r)), some (.im (.bl f)), some (.ol []), none, none] ⟨r, [], none, none, rfl, by simp, rfl⟩ (by
    rintro j d ρ1 hj ⟨r', zs, x5, x6, l1, l2, rfl⟩
    obtain ⟨hj, rfl⟩ := rng_at hj
    rw [Nat.zero_add] at l1 ⊢
    obtain ⟨r2, z, y6, hz', e⟩ := bN_run ns hl hz j (by omega) r' f zs (by omega) (some (.im (.int n))) x6
    refine ⟨_, [some (.im (.lst (ns.map .int))), some (.im (.int n)), some (.im (.int r2)), some (.im (.bl f)), some (.ol ((zs ++ [z]).map .int)), some (.im (.int j)), y6], rfl, ?_, r2, zs ++ [z], _, y6, by rw [List.length_append, l1]; rfl, ?_, rfl⟩
    · show bN [some (.im (.lst (ns.map .int))), some (.im (.int n)), some (.im (.int r')), some (.im (.bl f)), some (.ol (zs.map .int)), some (.im (.int (0 + (j : Int)))), x6] = _
      rw [Int.zero_add]
      exact e
    · intro y m
      rcases List.mem_append.mp m with m | m
      · exact l2 y m
      · rw [List.mem_singleton.mp m]
        exact hz')
  rw [rngD_len, Nat.zero_add] at l1
  subst e7
  refine ⟨zs, l1, l2, fun ρ => ?_⟩
  have e8 : b__law_numbers [some (.im (.lst (ns.map .int))), some (.im (.int n)), none, none, none, none, none] = .rt (.lst (zs.map .int)) [some (.im (.lst (ns.map .int))), some (.im (.int n)), some (.im (.int r')), some (.im (.bl f)), some (.im (.lst (zs.map .int))), x5, x6] := by
    have f1 : (sFor (itR1 (aC (rd 1) aN)) (gN 5) bN) [some (.im (.lst (ns.map .int))), some (.im (.int n)), some (.im (.int r)), some (.im (.bl f)), some (.ol []), none, none] = .nx [some (.im (.lst (ns.map .int))), some (.im (.int n)), some (.im (.int r')), some (.im (.bl f)), some (.ol (zs.map .int)), x5, x6] := by
      rw [sFor, e5]
      exact e6
    unfold b__law_numbers
    refine (sCons_nx (ρ1 := [some (.im (.lst (ns.map .int))), some (.im (.int n)), some (.im (.int 0)), none, none, none, none]) rfl).trans ?_
    rw [sCons_nx e2, sCons_nx e3, sCons_nx e4]
    refine (sCons_nx f1).trans ?_
    rfl
  exact fn_rt (m := 7) ρ rfl e8
end K98
namespace K98
open PySem PySem.Spec PyProof.Rows L2 Ce
/-! ### the sides' texts -/
def LP (zs : List Int) (I n : Nat) : List (List Rat) := (List.range n).map fun j => pq zs (5 + 7 * (I + j))
theorem LP_pt (zs : List Int) (I n : Nat) : (LP zs I n).map pt = esv (fun j => pP zs (I + j)) n := by
  unfold LP
  rw [List.map_map]
  rfl
theorem LP_ok (zs : List Int) (I n : Nat) : ∀ p ∈ LP zs I n, okP p := by
  intro p hp
  obtain ⟨j, _, rfl⟩ := List.mem_map.mp hp
  exact (pq_ok _ _).1
theorem LP_ne (zs : List Int) (I n : Nat) : (LP zs I n).getLast? ≠ some [] := by
  intro h
  have : [] ∈ LP zs I n := List.mem_of_getLast? h
  obtain ⟨j, _, e⟩ := List.mem_map.mp this
  exact (pq_ok _ _).2 e
theorem LP_len (zs : List Int) (I n : Nat) : (LP zs I n).length = n := by simp [LP]
theorem ld_62 (L : List (List Rat)) (w : List Nat) (h : L = [] → ¬ w.take 1 = [62]) : ¬ (ld (L.map pt) ++ w).take 1 = [62] := by
  cases L with
  | nil => simpa [ld] using h rfl
  | cons x L => simp [ld, pt]
def Here (c t s I n : Nat) : Prop := (c < 8 ∧ I ≤ t ∧ t < I + n) ∨ (8 ≤ c ∧ s = t % 2)
section
variable {zs : List Int} {c t s I n kk : Nat} {U : List Nat}
theorem side_no (hc : c < 10) (h : ¬ Here c t s I n) : (60 :: (jb (esv (fun j => pU zs c t U (I + j)) n) ++ xS c t s ++ [62])) = ot (LP zs I n) ∧ ∀ A w, xW c t s (A ++ [32, 60] ++ jb (esv (fun j => pU zs c t U (I + j)) n)) (wQ zs c t U kk (A ++ [32, 60]) w I n) = w := by
  unfold Here at h
  have e1 : xS c t s = [] := by
    unfold xS
    rw [if_neg (by omega), if_neg (by omega)]
  have e2 : esv (fun j => pU zs c t U (I + j)) n = esv (fun j => pP zs (I + j)) n := by
    refine List.map_congr_left fun j hj => ?_
    have := List.mem_range.mp hj
    show (if I + j = t ∧ c < 8 then U else pP zs (I + j)) = _
    rw [if_neg (by omega)]
  refine ⟨?_, fun A w => ?_⟩
  · rw [e1, e2, List.append_nil]
    unfold ot
    rw [LP_pt]
  · unfold xW wQ
    rw [if_neg (by omega), if_neg (by omega), if_neg (by omega)]
theorem side_sp (hc : c < 10) (h1 : 1 ≤ n) (hn : n ≤ 3) (hr : c < 8 → ∃ r, U = 91 :: r) (hE : c < 8 → ∀ post, Er m_poly_at U kk post) (h : Here c t s I n) :
    ∃ k2 : Nat, (∀ rest, Er m_operator_at (60 :: (jb (esv (fun j => pU zs c t U (I + j)) n) ++ xS c t s ++ [62])) k2 rest) ∧ ∀ A w, xW c t s (A ++ [32, 60] ++ jb (esv (fun j => pU zs c t U (I + j)) n)) (wQ zs c t U kk (A ++ [32, 60]) w I n) = ((A.length + 1 + k2 : Nat) : Int) := by
  by_cases h8 : c < 8
  · have hh : I ≤ t ∧ t < I + n := by unfold Here at h; omega
    have e1 : xS c t s = [] := by
      unfold xS
      rw [if_neg (by omega), if_neg (by omega)]
    have e0 : xW c t s (([] : List Nat)) 0 = 0 := by
      unfold xW
      rw [if_neg (by omega), if_neg (by omega)]
    have sp := esv_split (fun j => pU zs c t U (I + j)) (j := t - I) (n := n) (by omega)
    have ej : pU zs c t U (I + (t - I)) = U := by
      show (if I + (t - I) = t ∧ c < 8 then U else _) = U
      rw [if_pos ⟨by omega, h8⟩]
    have eB : esv (fun j => pU zs c t U (I + j)) (t - I) = (LP zs I (t - I)).map pt := by
      rw [LP_pt]
      refine List.map_congr_left fun j hj => ?_
      have := List.mem_range.mp hj
      show (if I + j = t ∧ c < 8 then U else pP zs (I + j)) = _
      rw [if_neg (by omega)]
    rw [ej] at sp
    refine ⟨1 + (ld ((LP zs I (t - I)).map pt)).length + kk, fun rest => ?_, fun A w => ?_⟩
    · rw [e1, sp, jb_split, eB]
      generalize (List.range (n - (t - I) - 1)).map (fun i => pU zs c t U (I + (t - I + 1 + i))) = C
      obtain ⟨r, er⟩ := hr h8
      have z := lift_op (LP zs I (t - I)) (LP_ok _ _ _) (by rw [LP_len]; omega) U ((jn C ++ [62]) ++ rest) kk (hE h8 _) (ld_62 _ _ fun _ => by rw [er]; simp)
      have z2 := Er.ext (t := 60 :: (ld ((LP zs I (t - I)).map pt) ++ U)) (v := jn C ++ [62]) z
      have ee : 60 :: (ld ((LP zs I (t - I)).map pt) ++ (U ++ jn C) ++ [] ++ [62]) = 60 :: (ld ((LP zs I (t - I)).map pt) ++ U) ++ (jn C ++ [62]) := by simp
      rw [ee]
      exact z2
    · unfold xW wQ
      rw [if_neg (by omega), if_neg (by omega), if_pos ⟨h8, hh⟩, eB]
      simp only [List.length_append, List.length_cons, List.length_nil]
      omega
  · have hh : s = t % 2 := by unfold Here at h; omega
    have e2 : esv (fun j => pU zs c t U (I + j)) n = (LP zs I n).map pt := by
      rw [LP_pt]
      refine List.map_congr_left fun j hj => ?_
      show (if I + j = t ∧ c < 8 then U else pP zs (I + j)) = _
      rw [if_neg (by omega)]
    have nn : (LP zs I n).map pt ≠ [] := by
      intro z
      have : ((LP zs I n).map pt).length = 0 := by rw [z]; rfl
      rw [List.length_map, LP_len] at this
      omega
    have e3 : ld ((LP zs I n).map pt) = jb ((LP zs I n).map pt) ++ [32] := by
      cases e : (LP zs I n).map pt with
      | nil => exact absurd e nn
      | cons a b =>
        rw [ld_cons]
        show _ = a ++ jn b ++ [32]
        simp
    by_cases c8 : c = 8
    · have e1 : xS c t s = [32, 91, 93] := by
        unfold xS
        rw [if_pos ⟨c8, hh⟩]
      have eo : 60 :: (jb (esv (fun j => pU zs c t U (I + j)) n) ++ xS c t s ++ [62]) = ot (LP zs I n ++ [[]]) := by
        have ep : pt [] = [91, 93] := rfl
        unfold ot
        rw [e1, e2, List.map_append, List.map_cons, List.map_nil, jb_split, e3, ep]
        simp [jn]
      have z := fun rest => opr_zero (LP zs I n ++ [[]]) (fun p hp => by
        rcases List.mem_append.mp hp with hp | hp
        · exact LP_ok _ _ _ p hp
        · rw [List.mem_singleton.mp hp]
          exact ⟨by simp, by simp, by simp⟩) (by simp [LP_len]; omega) (by simp) rest
      rw [← eo] at z
      refine ⟨_, z, fun A w => ?_⟩
      unfold xW
      rw [if_pos ⟨c8, hh⟩, e1]
      simp only [List.length_append, List.length_cons, List.length_nil]
      omega
    · have c9 : c = 9 := by omega
      have e1 : xS c t s = [32] := by
        unfold xS
        rw [if_neg (by omega), if_pos ⟨c9, hh⟩]
      refine ⟨1 + (ld ((LP zs I n).map pt)).length + 0, fun rest => ?_, fun A w => ?_⟩
      · have z := lift_op (LP zs I n) (LP_ok _ _ _) (by rw [LP_len]; omega) [] ([62] ++ rest) 0 (no_poly _ (by simp)) (ld_62 _ _ fun z => by
          rw [z] at nn
          exact absurd rfl nn)
        have z2 := Er.ext (v := [62]) z
        have ee : 60 :: (jb (esv (fun j => pU zs c t U (I + j)) n) ++ xS c t s ++ [62]) = 60 :: (ld ((LP zs I n).map pt) ++ []) ++ [62] := by
          rw [e1, e2, e3]
          simp
        rw [ee]
        exact z2
      · unfold xW
        rw [if_neg (by omega), if_pos ⟨c9, hh⟩, e2, e3]
        simp only [List.length_append, List.length_cons, List.length_nil]
        omega
end
end K98
namespace K98
open PySem PySem.Spec PyProof.Rows L2 Ce
theorem at1 {σ : En} {zs : List Int} (h : σ[1]? = some (zD zs)) (j : Nat) (hj : j < zs.length) : ixV 1 (cst (.int (j : Nat))) σ = .ok (.int (zs.getD j 0)) σ := by
  unfold ixV vw
  simp only [h, Out.bind, cst, at_zs hj, opt]
theorem imod_of {A B : En → Out D} {i m : Int} {σ : En} (ha : A σ = .ok (.int i) σ) (hb : B σ = .ok (.int m) σ) (hm : m ≠ 0) : op2 iMod A B σ = .ok (.int (i.fmod m)) σ := by
  rw [op2, ha]
  simp only [Out.bind]
  rw [hb]
  show opt (if decide (m ≠ 0) then some (D.int (i.fmod m)) else none) σ = _
  rw [if_pos (decide_eq_true hm)]
  rfl
theorem sSet_of {i : Nat} {A : En → Out D} {d : D} {σ : En} (h : A σ = .ok d σ) : sSet i A σ = .nx (σ.set i (some (.im d))) := by
  unfold sSet
  rw [h]
  rfl
theorem sSetN2 {i : Nat} {A B : En → Out D} {a b : D} {σ : En} (ha : A σ = .ok a σ) (hb : B σ = .ok b σ) : sSetN i (nLst (aC A (aC B aN))) σ = .nx (σ.set i (some (.ol [a, b]))) := by
  have z : decide (([a, b] : List D).length ≤ sizeLine) = true := by rw [sizeLine_eq]; rfl
  simp only [sSetN, nLst, aC, ha, hb, aN, Out.bind, z, if_true, Out.st]
def lE : En → SOut := (sCons (sRet (vAnd2 (isi1 (kIsT "int" [0, 1, 2, 3]) (exf xf_where 15)) (vAnd2 (vNot1 (isi1 (kIsT "bool" [0, 1, 2, 3]) (exf xf_where 15))) (op2 sEq (exf xf_where 15) (rd 6))))) sNil)
def lF : En → SOut := (sCons (sIf (tst (op2 sNe (cl1 (fnM 1 [] m_write_certificate) (aC (cl1 (fnM 1 [] m_read_certificate) (aC (rd 5) aN)) aN)) (rd 5))) (sCons (sRet (cst (.bl false))) sNil) sNil) (sCons (sTry 15 (List.range 16) xt_InvalidText (sCons (sExpr (cl1 (fnM 1 [] m_read_certificate) (aC (rd 4) aN))) sNil) lE) (sCons (sRet (cst (.bl false))) sNil)))
def lO : En → SOut := sFor (itR1 (aC (cst (.int 2)) aN)) (gN 10) oB
theorem b_law_eq : b_law = (sCons (sSet 1 (cl1 (fnM 2 [] m__law_numbers) (aC (rd 0) (aC (cst (.int 50)) aN)))) (sCons (sSet 2 (op2 iMod (ixV 1 (cst (.int 0))) (cst (.int 10)))) (sCons (sSetN 3 (nLst (aC (rd 2) (aC (op2 iAdd (op2 iMod (ixV 1 (cst (.int 1))) (cst (.int 4))) (cst (.int 2))) aN)))) (sCons (sSet 4 (cst (.str (PySem.Str.ofString "equal")))) (sCons (sSet 5 (cst (.str (PySem.Str.ofString "equal")))) (sCons (sSet 6 (iNeg (cst (.int 1)))) (sCons (sSetN 7 (nLst (aC (op2 iAdd (op2 iMod (ixV 1 (cst (.int 2))) (cst (.int 3))) (cst (.int 1))) (aC (op2 iAdd (op2 iMod (ixV 1 (cst (.int 3))) (cst (.int 3))) (cst (.int 1))) aN)))) (sCons (sSet 8 (op2 iMod (ixV 1 (cst (.int 4))) (op2 iAdd (ixV 7 (cst (.int 0))) (ixV 7 (cst (.int 1)))))) (sCons (sSet 9 (cst (.int 0))) (sCons lO lF)))))))))) := rfl
theorem s_equal : PySem.Str.ofString "equal" = S eqw := by decide +kernel
theorem try_run {fb gs : En → SOut} {σ ρ' : En} {w : Int} (hf : fb σ = .ex ⟨4, [.int w]⟩ σ) (hl : σ.length = 16) (hg : gs ((frzE σ).set 15 (some (.exn 4 [.int w]))) = .rt (.bl true) ρ') : sTry 15 (List.range 16) xt_InvalidText fb gs σ = .rt (.bl true) (σ.set 15 none) := by
  unfold sTry
  rw [hf]
  have z : (([D.int w] : List D).isEmpty || decide (σ.length ≤ 15)) = false := by rw [hl]; rfl
  show (if (([D.int w] : List D).isEmpty || decide (σ.length ≤ 15)) = true then _ else _) = _
  rw [z]
  show (match gs ((frzE σ).set 15 (some (.exn 4 [.int w]))) with
      | .rt d _ => if scal d then SOut.rt d (σ.set 15 none) else .er
      | .nx ρ3 => _
      | _ => _) = _
  rw [hg]
  rfl
section
variable {ns zs : List Int} {c f : Nat} {x3 : Option O} {A W U : List Nat} {w : Int} {n0 n1 t I kk n s : Nat} {x10 x11 x12 x13 x14 : Option O}
theorem lF_run {d : D} (h1 : ∀ ρ, fnM 1 [] m_read_certificate [.str (S W)] ρ = .ok d ρ) (h2 : ∀ ρ, fnM 1 [] m_write_certificate [d] ρ = .ok (.str (S W)) ρ) (h3 : ∀ ρ, fnM 1 [] m_read_certificate [.str (S A)] ρ = .ex ⟨4, [.int w]⟩ ρ) :
    ∃ ρ', lF (lS ns zs c x3 A W w n0 n1 t I x10 x11 x12 x13 x14) = .rt (.bl true) ρ' := by
  generalize hσ : lS ns zs c x3 A W w n0 n1 t I x10 x11 x12 x13 x14 = σ
  refine ⟨σ.set 15 none, ?_⟩
  unfold lF
  have r5 : rd 5 σ = .ok (.str (S W)) σ := by subst hσ; rfl
  have r4 : rd 4 σ = .ok (.str (S A)) σ := by subst hσ; rfl
  have e1 : cl1 (fnM 1 [] m_read_certificate) (aC (rd 5) aN) σ = .ok d σ := by
    unfold cl1 aC
    rw [r5]
    simp only [Out.bind, aN]
    exact h1 σ
  have e2 : cl1 (fnM 1 [] m_write_certificate) (aC (cl1 (fnM 1 [] m_read_certificate) (aC (rd 5) aN)) aN) σ = .ok (.str (S W)) σ := by
    rw [cl1, aC, e1]
    simp only [Out.bind, aN]
    exact h2 σ
  have e3 : tst (op2 sNe (cl1 (fnM 1 [] m_write_certificate) (aC (cl1 (fnM 1 [] m_read_certificate) (aC (rd 5) aN)) aN)) (rd 5)) σ = .ok false σ := by
    unfold tst
    rw [op2, e2]
    simp only [Out.bind]
    rw [r5]
    simp only [sNe_str, decide_true, Bool.not_true]
  refine (sCons_nx (ρ1 := σ) (sIf_f e3)).trans ?_
  refine sCons_rt ?_
  have e4 : cl1 (fnM 1 [] m_read_certificate) (aC (rd 4) aN) σ = .ex ⟨4, [.int w]⟩ σ := by
    unfold cl1 aC
    rw [r4]
    simp only [Out.bind, aN]
    exact h3 σ
  have e5 : (sCons (sExpr (cl1 (fnM 1 [] m_read_certificate) (aC (rd 4) aN))) sNil) σ = .ex ⟨4, [.int w]⟩ σ := by
    unfold sCons sExpr
    rw [e4]
    rfl
  refine try_run (ρ' := (frzE σ).set 15 (some (.exn 4 [.int w]))) e5 (by subst hσ; rfl) ?_
  subst hσ
  unfold lE
  refine sCons_rt ?_
  show SOut.rt (.bl (decide (w = w))) _ = _
  rw [decide_eq_true rfl]
end
end K98
namespace K98
open PySem PySem.Spec PyProof.Rows L2 Ce
theorem ixc0 {ns zs : List Int} {c : Nat} {x3 : Option O} {A W : List Nat} {w : Int} {n0 n1 t I : Nat} {x11 x12 x13 x14 : Option O} : ixV 7 (rd 10) (lS ns zs c x3 A W w n0 n1 t I (oI (0 : Nat)) x11 x12 x13 x14) = .ok (.int n0) (lS ns zs c x3 A W w n0 n1 t I (oI (0 : Nat)) x11 x12 x13 x14) := rfl
theorem ixc1 {ns zs : List Int} {c : Nat} {x3 : Option O} {A W : List Nat} {w : Int} {n0 n1 t I : Nat} {x11 x12 x13 x14 : Option O} : ixV 7 (rd 10) (lS ns zs c x3 A W w n0 n1 t I (oI (1 : Nat)) x11 x12 x13 x14) = .ok (.int n1) (lS ns zs c x3 A W w n0 n1 t I (oI (1 : Nat)) x11 x12 x13 x14) := rfl
theorem forL_two {g : D → En → Option En} {b : En → SOut} {d0 d1 : D} {ρ ρ1 ρ2 ρ3 ρ4 : En} (h0 : g d0 ρ = some ρ1) (h1 : b ρ1 = .nx ρ2) (h2 : g d1 ρ2 = some ρ3) (h3 : b ρ3 = .nx ρ4) : forL g b [d0, d1] ρ = .nx ρ4 := by
  rw [forL, h0]
  simp only [h1]
  rw [forL, h2]
  simp only [h3]
  rfl
theorem lO_two {σ σ1 σ2 : En} (h0 : oB (σ.set 10 (oI (0 : Nat))) = .nx σ1) (h1 : oB (σ1.set 10 (oI (1 : Nat))) = .nx σ2) : lO σ = .nx σ2 := by
  have it : itR1 (aC (cst (.int 2)) aN) σ = .ok [.int (0 : Nat), .int (1 : Nat)] σ := by
    have z := itR1_ok (g := aC (cst (.int 2)) aN) (ρ := σ) (ρ1 := σ) (j := ((2 : Nat) : Int)) rfl (inR_nat 2 (by omega))
    rw [z, Int.toNat_natCast]
    rfl
  unfold lO sFor
  rw [it]
  simp only [Out.st]
  exact forL_two rfl h0 rfl h1
/-- the two sides, and the answer -/
theorem sides_run {ns zs : List Int} {c f n0 n1 t kk : Nat} {U : List Nat} (hs : Sp zs c f t U kk) (hz : zs.length = 50) (hc : c < 10) (hn0 : 1 ≤ n0 ∧ n0 ≤ 3) (hn1 : 1 ≤ n1 ∧ n1 ≤ 3) (ht : t < n0 + n1)
    (hr : c < 8 → ∃ r, U = 91 :: r) (hE : c < 8 → ∀ post, Er m_poly_at U kk post) :
    ∃ ρ', sCons lO lF (lS ns zs c (some (.ol [.int c, .int f])) eqw eqw (-1) n0 n1 t 0 none none none none none) = .rt (.bl true) ρ' := by
  have el : eqw.length = 5 := rfl
  obtain ⟨y3, y11, y12, y13, y14, g3, e0⟩ := side (ns := ns) (x3 := some (.ol [.int c, .int f])) (A := eqw) (W := eqw) (w := -1) (n0 := n0) (n1 := n1) (I := 0) (n := n0) (s := 0) (x11 := none) (x12 := none) (x13 := none) (x14 := none) hs (.inl rfl) hz (by omega) (by rw [el]; omega) (by rw [el]; omega) (fun A W => ixc0)
  have hU : ∀ I j, ((fun j => pU zs c t U (I + j)) j).length ≤ 201 := by
    intro I j
    show (if I + j = t ∧ c < 8 then U else pP zs (I + j)).length ≤ 201
    split
    · exact hs.len
    · exact pP_len _ _
  have hP : ∀ I j, ((fun j => pP zs (I + j)) j).length ≤ 201 := fun I j => pP_len _ _
  have l1 := jb_le2 _ (hU 0) n0
  have l2 := jb_le2 _ (hP 0) n0
  have l3 := jb_le2 _ (hU n0) n1
  have lx : ∀ s, (xS c t s).length ≤ 3 := by
    intro s
    unfold xS
    split
    · simp
    · split <;> simp
  have lx0 := lx 0
  have lx1 := lx 1
  generalize hw0 : xW c t 0 (eqw ++ [32, 60] ++ jb (esv (fun j => pU zs c t U (0 + j)) n0)) (wQ zs c t U kk (eqw ++ [32, 60]) (-1) 0 n0) = w0 at e0
  obtain ⟨z3, z11, z12, z13, z14, k3, e1⟩ := side (ns := ns) (x3 := y3) (A := eqw ++ [32, 60] ++ jb (esv (fun j => pU zs c t U (0 + j)) n0) ++ xS c t 0 ++ [62]) (W := eqw ++ [32, 60] ++ jb (esv (fun j => pP zs (0 + j)) n0) ++ [62]) (w := w0) (n0 := n0) (n1 := n1) (I := 0 + n0) (n := n1) (s := 1) (x11 := y11) (x12 := y12) (x13 := y13) (x14 := y14) hs g3 hz (by omega) (by simp only [List.length_append, List.length_cons, List.length_nil]; omega) (by simp only [List.length_append, List.length_cons, List.length_nil]; omega) (fun A W => ixc1)
  generalize hw1 : xW c t 1 ((eqw ++ [32, 60] ++ jb (esv (fun j => pU zs c t U (0 + j)) n0) ++ xS c t 0 ++ [62]) ++ [32, 60] ++ jb (esv (fun j => pU zs c t U (0 + n0 + j)) n1)) (wQ zs c t U kk ((eqw ++ [32, 60] ++ jb (esv (fun j => pU zs c t U (0 + j)) n0) ++ xS c t 0 ++ [62]) ++ [32, 60]) w0 (0 + n0) n1) = w1 at e1
  have lo : lO (lS ns zs c (some (.ol [.int c, .int f])) eqw eqw (-1) n0 n1 t 0 none none none none none) = .nx (lS ns zs c z3 ((eqw ++ [32, 60] ++ jb (esv (fun j => pU zs c t U (0 + j)) n0) ++ xS c t 0 ++ [62]) ++ [32, 60] ++ jb (esv (fun j => pU zs c t U (0 + n0 + j)) n1) ++ xS c t 1 ++ [62]) ((eqw ++ [32, 60] ++ jb (esv (fun j => pP zs (0 + j)) n0) ++ [62]) ++ [32, 60] ++ jb (esv (fun j => pP zs (0 + n0 + j)) n1) ++ [62]) w1 n0 n1 t (0 + n0 + n1) (oI (1 : Nat)) z11 z12 z13 z14) := by
    exact lO_two e0 e1
  have rd := fun d h1 h2 h3 => lF_run (ns := ns) (zs := zs) (c := c) (x3 := z3) (A := (eqw ++ [32, 60] ++ jb (esv (fun j => pU zs c t U (0 + j)) n0) ++ xS c t 0 ++ [62]) ++ [32, 60] ++ jb (esv (fun j => pU zs c t U (0 + n0 + j)) n1) ++ xS c t 1 ++ [62]) (W := (eqw ++ [32, 60] ++ jb (esv (fun j => pP zs (0 + j)) n0) ++ [62]) ++ [32, 60] ++ jb (esv (fun j => pP zs (0 + n0 + j)) n1) ++ [62]) (w := w1) (n0 := n0) (n1 := n1) (t := t) (I := 0 + n0 + n1) (x10 := oI (1 : Nat)) (x11 := z11) (x12 := z12) (x13 := z13) (x14 := z14) (d := d) h1 h2 h3
  rw [sCons_nx lo]
  -- the text as it was
  have ew : (eqw ++ [32, 60] ++ jb (esv (fun j => pP zs (0 + j)) n0) ++ [62]) ++ [32, 60] ++ jb (esv (fun j => pP zs (0 + n0 + j)) n1) ++ [62] = et (LP zs 0 n0) (LP zs (0 + n0) n1) := by
    unfold et ot
    rw [LP_pt, LP_pt]
    simp [eqs]
  obtain ⟨d, wr, ww⟩ := whole_ok (LP zs 0 n0) (LP zs (0 + n0) n1) (LP_ok _ _ _) (LP_ok _ _ _) (by rw [LP_len]; omega) (by rw [LP_len]; omega) (LP_ne _ _ _) (LP_ne _ _ _)
  rw [← ew] at wr ww
  refine rd d wr ww ?_
  clear rd lo wr ww ew e0 e1
  -- the spoilt text
  have ea : (eqw ++ [32, 60] ++ jb (esv (fun j => pU zs c t U (0 + j)) n0) ++ xS c t 0 ++ [62]) ++ [32, 60] ++ jb (esv (fun j => pU zs c t U (0 + n0 + j)) n1) ++ xS c t 1 ++ [62] = eqs ((60 :: (jb (esv (fun j => pU zs c t U (0 + j)) n0) ++ xS c t 0 ++ [62])) ++ (32 :: (60 :: (jb (esv (fun j => pU zs c t U (0 + n0 + j)) n1) ++ xS c t 1 ++ [62])))) := by
    simp [eqs]
  rw [ea]
  have lt0 : (60 :: (jb (esv (fun j => pU zs c t U (0 + j)) n0) ++ xS c t 0 ++ [62])).length ≤ 900 := by
    simp only [List.length_append, List.length_cons, List.length_nil]
    omega
  have lt1 : (60 :: (jb (esv (fun j => pU zs c t U (0 + n0 + j)) n1) ++ xS c t 1 ++ [62])).length ≤ 900 := by
    simp only [Nat.zero_add, List.length_append, List.length_cons, List.length_nil] at l3 ⊢
    omega
  by_cases h0 : Here c t 0 0 n0
  · have h1 : ¬ Here c t 1 (0 + n0) n1 := by unfold Here at h0 ⊢; omega
    obtain ⟨k2, er, ewh⟩ := side_sp (zs := zs) (kk := kk) (U := U) hc hn0.1 hn0.2 hr hE h0
    obtain ⟨_, nw⟩ := side_no (zs := zs) (kk := kk) (U := U) hc h1
    have w1e : w1 = ((6 + k2 : Nat) : Int) := by
      rw [← hw1, nw, ← hw0, ewh, el]
    intro ρ
    rw [w1e]
    exact whole_er1 _ _ k2 (er _) (by rw [List.length_append]; simp only [List.length_cons] at lt0 lt1 ⊢; omega) ρ
  · have h1 : Here c t 1 (0 + n0) n1 := by unfold Here at h0 ⊢; omega
    obtain ⟨k2, er, ewh⟩ := side_sp (zs := zs) (kk := kk) (U := U) hc hn1.1 hn1.2 hr hE h1
    obtain ⟨eo, nw⟩ := side_no (zs := zs) (kk := kk) (U := U) hc h0
    have w1e : w1 = ((6 + (ot (LP zs 0 n0)).length + 1 + k2 : Nat) : Int) := by
      rw [← hw1, ewh, ← eo]
      simp only [List.length_append, List.length_cons, List.length_nil]
      omega
    intro ρ
    rw [w1e, eo]
    have z := whole_er2 (LP zs 0 n0) (LP_ok _ _ _) (by rw [LP_len]; omega) (LP_ne _ _ _) (60 :: (jb (esv (fun j => pU zs c t U (0 + n0 + j)) n1) ++ xS c t 1 ++ [62])) [] k2 (er _) (by rw [List.append_nil]; omega) ρ
    rw [List.append_nil] at z
    exact z
theorem plain (ns : List Int) (hl : ns.length ≤ 63) (hz : ∀ z ∈ ns, Builtin.Int.intBits z ≤ 1048576) : ∃ ρ, m_law [some (.im (.lst (ns.map D.int)))] = .ok (.bl true) ρ := by
  obtain ⟨zs, lz, _, en⟩ := numbers_run ns hl hz 50 (by omega)
  have b0 := fmod_b (zs.getD 0 0) (show (0 : Int) < 10 by omega)
  have b1 := fmod_b (zs.getD 1 0) (show (0 : Int) < 4 by omega)
  have b2 := fmod_b (zs.getD 2 0) (show (0 : Int) < 3 by omega)
  have b3 := fmod_b (zs.getD 3 0) (show (0 : Int) < 3 by omega)
  obtain ⟨c, hc⟩ : ∃ c : Nat, (zs.getD 0 0).fmod 10 = (c : Int) := ⟨((zs.getD 0 0).fmod 10).toNat, by omega⟩
  obtain ⟨f, hf⟩ : ∃ f : Nat, (zs.getD 1 0).fmod 4 + 2 = (f : Int) := ⟨((zs.getD 1 0).fmod 4 + 2).toNat, by omega⟩
  obtain ⟨n0, hn0⟩ : ∃ f : Nat, (zs.getD 2 0).fmod 3 + 1 = (f : Int) := ⟨((zs.getD 2 0).fmod 3 + 1).toNat, by omega⟩
  obtain ⟨n1, hn1⟩ : ∃ f : Nat, (zs.getD 3 0).fmod 3 + 1 = (f : Int) := ⟨((zs.getD 3 0).fmod 3 + 1).toNat, by omega⟩
  have b4 := fmod_b (zs.getD 4 0) (show (0 : Int) < (n0 : Int) + n1 by omega)
  obtain ⟨t, ht⟩ : ∃ f : Nat, (zs.getD 4 0).fmod ((n0 : Int) + n1) = (f : Int) := ⟨((zs.getD 4 0).fmod ((n0 : Int) + n1)).toNat, by omega⟩
  have main : ∃ ρ', sCons lO lF (lS ns zs c (some (.ol [.int c, .int f])) eqw eqw (-1) n0 n1 t 0 none none none none none) = .rt (.bl true) ρ' := by
    by_cases h8 : c < 8
    · obtain ⟨r, k, run, lr, er⟩ := poly_bad (zs := zs) (p := 5 + 7 * t) (spot := (zs.getD 1 0).fdiv 4) (c := c) (f := f) (by omega) (by omega) (by omega)
      exact sides_run (f := f) (U := 91 :: r) (kk := k) ⟨fun _ => run, by rw [List.length_cons]; omega⟩ lz (by omega) (by omega) (by omega) (by omega) (fun _ => ⟨r, rfl⟩) (fun _ => er)
    · exact sides_run (f := f) (U := []) (kk := 0) ⟨fun h => absurd h h8, by simp⟩ lz (by omega) (by omega) (by omega) (by omega) (fun h => absurd h h8) (fun h => absurd h h8)
  obtain ⟨ρ', main⟩ := main
  have key : b_law [zD ns, none, none, none, none, none, none, none, none, none, none, none, none, none, none, none] = .rt (.bl true) ρ' := by
    rw [b_law_eq]
    refine (sCons_nx (ρ1 := [zD ns, zD zs, none, none, none, none, none, none, none, none, none, none, none, none, none, none]) ?_).trans ?_
    · refine sSet_of (d := .lst (zs.map .int)) ?_
      exact en _
    refine (sCons_nx (ρ1 := [zD ns, zD zs, oI c, none, none, none, none, none, none, none, none, none, none, none, none, none]) ?_).trans ?_
    · rw [← hc]
      exact sSet_of (imod_of (at1 rfl 0 (by omega)) rfl (by omega))
    refine (sCons_nx (ρ1 := [zD ns, zD zs, oI c, some (.ol [.int c, .int f]), none, none, none, none, none, none, none, none, none, none, none, none]) ?_).trans ?_
    · rw [← hf]
      exact sSetN2 rfl (iadd_of (imod_of (at1 rfl 1 (by omega)) rfl (by omega)) rfl)
    refine (sCons_nx (ρ1 := [zD ns, zD zs, oI c, some (.ol [.int c, .int f]), oT eqw, none, none, none, none, none, none, none, none, none, none, none]) ?_).trans ?_
    · rw [s_equal]
      rfl
    refine (sCons_nx (ρ1 := [zD ns, zD zs, oI c, some (.ol [.int c, .int f]), oT eqw, oT eqw, none, none, none, none, none, none, none, none, none, none]) ?_).trans ?_
    · rw [s_equal]
      rfl
    refine (sCons_nx (ρ1 := [zD ns, zD zs, oI c, some (.ol [.int c, .int f]), oT eqw, oT eqw, oI (-1), none, none, none, none, none, none, none, none, none]) rfl).trans ?_
    refine (sCons_nx (ρ1 := [zD ns, zD zs, oI c, some (.ol [.int c, .int f]), oT eqw, oT eqw, oI (-1), some (.ol [.int n0, .int n1]), none, none, none, none, none, none, none, none]) ?_).trans ?_
    · rw [← hn0, ← hn1]
      exact sSetN2 (iadd_of (imod_of (at1 rfl 2 (by omega)) rfl (by omega)) rfl) (iadd_of (imod_of (at1 rfl 3 (by omega)) rfl (by omega)) rfl)
    refine (sCons_nx (ρ1 := [zD ns, zD zs, oI c, some (.ol [.int c, .int f]), oT eqw, oT eqw, oI (-1), some (.ol [.int n0, .int n1]), oI t, none, none, none, none, none, none, none]) ?_).trans ?_
    · rw [← ht]
      exact sSet_of (imod_of (at1 rfl 4 (by omega)) (iadd_of rfl rfl) (by omega))
    refine (sCons_nx (ρ1 := lS ns zs c (some (.ol [.int c, .int f])) eqw eqw (-1) n0 n1 t 0 none none none none none) rfl).trans ?_
    exact main
  unfold m_law mOf
  rw [show ([some (.im (.lst (ns.map D.int)))] : En) ++ List.replicate (16 - ([some (.im (.lst (ns.map D.int)))] : En).length) none = [zD ns, none, none, none, none, none, none, none, none, none, none, none, none, none, none, none] from rfl, key]
  exact ⟨_, rfl⟩
end K98
namespace K98
open PySem PySem.Spec PyProof.Rows L2 Ce
abbrev R : PySem.W.OpenRow := PySem.W.OpenLaw.row PySem.Challenge.rw_certsums_k98_places_of_errors
abbrev qv : Program := PySem.W.view R.prog [0, 65]
def loose : List PySem.Str := ([(PySem.Str.ofString "gcd"), (PySem.Str.ofString "lcm"), (PySem.Str.ofString "_wall"), (PySem.Str.ofString "__name__"), (PySem.Str.ofString "SummationError"), (PySem.Str.ofString "DivisionByZero"), (PySem.Str.ofString "ZeroPolynomial"), (PySem.Str.ofString "Pole"), (PySem.Str.ofString "InvalidText"), (PySem.Str.ofString "Fraction"), (PySem.Str.ofString "trimmed"), (PySem.Str.ofString "content"), (PySem.Str.ofString "Poly"), (PySem.Str.ofString "from_fractions"), (PySem.Str.ofString "Operator"), (PySem.Str.ofString "Poly2"), (PySem.Str.ofString "divide"), (PySem.Str.ofString "exact"), (PySem.Str.ofString "monic"), (PySem.Str.ofString "primitive")] : List PySem.Str) ++ ([(PySem.Str.ofString "common_divisor"), (PySem.Str.ofString "Quotient"), (PySem.Str.ofString "DIGITS"), (PySem.Str.ofString "Cursor"), (PySem.Str.ofString "positive_at"), (PySem.Str.ofString "count_at"), (PySem.Str.ofString "whole_at"), (PySem.Str.ofString "fraction_at"), (PySem.Str.ofString "listed_at"), (PySem.Str.ofString "list_at"), (PySem.Str.ofString "matrix_at"), (PySem.Str.ofString "poly_at"), (PySem.Str.ofString "poly2_at"), (PySem.Str.ofString "operator_at"), (PySem.Str.ofString "quotient_at"), (PySem.Str.ofString "CERTIFICATES"), (PySem.Str.ofString "open_at"), (PySem.Str.ofString "recurrence_at"), (PySem.Str.ofString "none_at"), (PySem.Str.ofString "equal_at")] : List PySem.Str) ++ ([(PySem.Str.ofString "certificate_at"), (PySem.Str.ofString "read_certificate"), (PySem.Str.ofString "write_fraction"), (PySem.Str.ofString "write_list"), (PySem.Str.ofString "write_matrix"), (PySem.Str.ofString "write_poly"), (PySem.Str.ofString "write_poly2"), (PySem.Str.ofString "write_operator"), (PySem.Str.ofString "write_quotient"), (PySem.Str.ofString "write_open"), (PySem.Str.ofString "write_certificate"), (PySem.Str.ofString "_law_numbers"), (PySem.Str.ofString "_law_divisor"), (PySem.Str.ofString "_law_shown"), (PySem.Str.ofString "_law_spoilt"), (PySem.Str.ofString "_law_poly")] : List PySem.Str)
abbrev hk : PySem.W.Hook := hookX fs fn
def ob (s : PySem.W.SharedT) : AlX := obsXG fs fn (HandSHeadRun.getT s)
theorem ob_eq (s : PySem.W.SharedT) : ob s = hk.obs s.abs := obsXG_eq (HandSHeadRun.getT_eq s)
theorem run (w : World) : HandSHeadRun.RunEqI R qv hk ob 8000 loose w := by
  unfold HandSHeadRun.RunEqI
  kernel_rfl
theorem facts {P : Program} {w : World} {K : PySem.W.Frag} {h : Heap} {mg : Str → Option Value} {f : Addr} (X : K.In h) (G : h.Ns mainGlobals mg) (hfa : mg (PySem.Str.ofString "law") = some (.ref f)) (c : SaysX fs fn K) :
    ∃ fd : FuncData, (∀ (s : Shared) (v : Value), BindsTo s fd ⟨[v], []⟩ [((PySem.Str.ofString "_law_script"), v)]) ∧ ∀ base : Heap, K.In base → base.Ns mainGlobals mg → FnOk P w K mg base (L2.CX P w) 15 f fd [(PySem.Str.ofString "_law_script")] (spM K (T K) 1 m_law) := by
  have E : Bd K mg h := ⟨c, X, G⟩
  obtain ⟨fd, F⟩ := c.def_ 36 (d := d_law)
  have ef : mg (PySem.Str.ofString "law") = some (.ref (He.ga K (PySem.Str.ofString "law"))) := (glo_of E.X E.G E.f69)
  have e := hfa.symm.trans ef
  cases e
  have b := FunD.bindsA (ps := [(PySem.Str.ofString "_law_script")]) (show FunD K _ _ _ _ _ [] [] _ fd from F) fun _ _ _ _ _ _ us hl => match us, hl with | [_], _ => rfl
  refine ⟨fd, fun s v => b s [v] rfl, fun base _ _ => ?_⟩
  obtain ⟨fd2, F2, G2⟩ := ok_law (P := P) (w := w) (base := base) E
  have e2 := fd_one F F2
  subst e2
  exact G2
end K98
open PySem PySem.W PySem.Calls PyProof.Rows
theorem PySem.Challenge.cw_certsums_k98_places_of_errors_holds : PySem.Challenge.rw_certsums_k98_places_of_errors.Holds := by
  w_on; o_law
  refine HandSHeadRun.head_imp (r := OpenLaw.row PySem.Challenge.rw_certsums_k98_places_of_errors) (q := view (OpenLaw.row PySem.Challenge.rw_certsums_k98_places_of_errors).prog [0, 65]) (H := K98.hk) (ob := K98.ob) (M := 8000) (loose := K98.loose) (d := HandSHeadRun.topDef (OpenLaw.row PySem.Challenge.rw_certsums_k98_places_of_errors).prog 65) (kwd := []) K98.ob_eq
    K98.run (by kernel_rfl) (by kernel_rfl) (by kernel_rfl) (by rfl) (by first | assumption | decide +kernel) (by decide +kernel) ⟨rfl, rfl, rfl, rfl, rfl, by decide +kernel⟩ ?hw ?hc
  case hw => w_witness2
  case hc =>
    refine Ce.walk_end (l := PySem.Challenge.rw_certsums_k98_places_of_errors) (n := 63) (k := 15) (x := (PySem.Str.ofString "_law_script")) rfl (by decide) (by kernel_rfl) ⟨rfl, by decide, by decide⟩ ?F
    intro w mg fa h Y G hmg0
    obtain ⟨K, KX, c⟩ := Y
    have hmg : mg (PySem.Str.ofString "law") = some (.ref fa) := by
      have e : (HandSHeadRun.topDef (OpenLaw.row PySem.Challenge.rw_certsums_k98_places_of_errors).prog 65).name = (PySem.Str.ofString "law") := by kernel_rfl
      rw [← e]
      exact hmg0
    obtain ⟨fd, hb, hF⟩ := K98.facts (P := (PySem.Challenge.rw_certsums_k98_places_of_errors).prog) (w := w) KX G hmg c
    exact ⟨K, fd, _, KX, hb, fun H a ns hl hz hS => Ce.spM_law hS (K98.plain ns hl hz), hF⟩
