import PyProof.Rows.All
import Wide.All
import OpenK.AllK
import Wide.FinOn
import HandS.ForMost
import HandS.IsInst
import HandS.Wide
import HandS.TupAny
import HandS.TupMul
import HandS.Flow
import HandS.NoneIn
import HandS.Style
import HandS.Gcd
import HandS.Defaults
import KE.GoesEnum
import HandS.Zip
import HandS.Rev
import HandS.SortInts
import HandS.DictComp
import KE.KStateDown
import Lean
import HandS.Ends
import HandS.More
import HandS.Words
import HandS.WordsExc
import HandS.Head0
import HandS.Head1
import HandS.Head2
import HandS.HeadEnd
import HandS.HeadHook1
import HandS.HeadHook2
import HandS.Iter
import HandS.WideBits
import HandS.Dict
import PySem.Challenge.RW_alwayswritten_k17_is_fit
set_option Elab.async false
set_option linter.all false
set_option autoImplicit false
set_option maxRecDepth 100000
set_option maxHeartbeats 4000000
/-! R: functional readings over the hand layer. Data as trees, slots that own one mutable list or dict each. -/
namespace FR
open PySem PySem.Spec L2

/-- data that never changes any more -/
inductive D where
  | non
  | bl (b : Bool)
  | int (i : Int)
  | str (x : Str)
  | tup (xs : List D)
  /-- a tuple of the module's own -/
  | kt (xs : List D)
  | lst (xs : List D)
  /-- a list that is only read (the script, a list of the module) -/
  | lk (xs : List D)
  | dk (kvs : List (Key × D))
  | dt (kvs : List (List Key × D))
  | ty (n : String)

/-- what a cell that one slot owns holds -/
inductive C where
  | lst (xs : List D)
  | dk (kvs : List (Key × D))
  | dt (kvs : List (List Key × D))

/-- what a slot holds -/
inductive O where
  | d (x : D)
  | own (c : C)

/-- an exception: its class's name, its fields -/
structure Ex where
  cls : Str
  fs : List (Str × D)

abbrev Sl := List (Option O)

inductive Res (α : Type) where
  | ok (a : α) (S : Sl)
  | exc (x : Ex) (S : Sl)
  | bad

abbrev Mn (α : Type) := Sl → Res α
@[simp] def bnd {α β : Type} (f : Mn α) (g : α → Mn β) : Mn β := fun S => match f S with
  | .ok a S' => g a S'
  | .exc x S' => .exc x S'
  | .bad => .bad
@[simp] def ret {α : Type} (a : α) : Mn α := fun S => .ok a S

/-! ### data over the frozen heap -/
mutual
inductive RV (K : PySem.W.Frag) (F : Hp) : V → D → Prop
  | non : RV K F .non .non
  | bl (b : Bool) : RV K F (.bl b) (.bl b)
  | int (i : Int) : RV K F (.int i) (.int i)
  | str (x : Str) : RV K F (.str x) (.str x)
  | ty (n : String) : RV K F (.ty n) (.ty n)
  | tup {a : Addr} {vs : List V} {ds : List D} : F a = some (.tup vs) → RVs K F vs ds → RV K F (.ref a) (.tup ds)
  | kt {a : Addr} {vs : List V} {ds : List D} : SqT K F a vs → RVs K F vs ds → RV K F (.ref a) (.kt ds)
  | lst {a : Addr} {vs : List V} {ds : List D} : F a = some (.lst vs) → RVs K F vs ds → RV K F (.ref a) (.lst ds)
  | lk {a : Addr} {vs : List V} {ds : List D} : SqL K F a vs → RVs K F vs ds → RV K F (.ref a) (.lk ds)
  | dk {a : Addr} {vs : List (Key × V)} {ds : List (Key × D)} : F a = some (.dK vs) → RKs K F vs ds → RV K F (.ref a) (.dk ds)
  | dt {a : Addr} {vs : List (List Key × V)} {ds : List (List Key × D)} : F a = some (.dT vs) → RTs K F vs ds → RV K F (.ref a) (.dt ds)
inductive RVs (K : PySem.W.Frag) (F : Hp) : List V → List D → Prop
  | nil : RVs K F [] []
  | cons {v : V} {d : D} {vs : List V} {ds : List D} : RV K F v d → RVs K F vs ds → RVs K F (v :: vs) (d :: ds)
inductive RKs (K : PySem.W.Frag) (F : Hp) : List (Key × V) → List (Key × D) → Prop
  | nil : RKs K F [] []
  | cons {k : Key} {v : V} {d : D} {vs : List (Key × V)} {ds : List (Key × D)} : RV K F v d → RKs K F vs ds → RKs K F ((k, v) :: vs) ((k, d) :: ds)
inductive RTs (K : PySem.W.Frag) (F : Hp) : List (List Key × V) → List (List Key × D) → Prop
  | nil : RTs K F [] []
  | cons {k : List Key} {v : V} {d : D} {vs : List (List Key × V)} {ds : List (List Key × D)} : RV K F v d → RTs K F vs ds → RTs K F ((k, v) :: vs) ((k, d) :: ds)
end

theorem Same.seqT {K : PySem.W.Frag} {H H' : Hp} {a : Addr} {xs : List V} (e : Same H H') (h : SqT K H a xs) : SqT K H' a xs := by
  rcases h with (h | ⟨o, h⟩) | h
  · exact .inl (.inl (e _ _ h))
  · exact .inl (.inr ⟨o, e _ _ h⟩)
  · exact .inr h

section
variable {K : PySem.W.Frag} {F F' : Hp}
mutual
theorem RV.mono (s : Same F F') : ∀ {v : V} {d : D}, RV K F v d → RV K F' v d
  | _, _, .non => .non
  | _, _, .bl b => .bl b
  | _, _, .int i => .int i
  | _, _, .str x => .str x
  | _, _, .ty n => .ty n
  | _, _, .tup h r => .tup (s _ _ h) (RVs.mono s r)
  | _, _, .kt h r => .kt (Same.seqT s h) (RVs.mono s r)
  | _, _, .lst h r => .lst (s _ _ h) (RVs.mono s r)
  | _, _, .lk h r => .lk (s.seq h) (RVs.mono s r)
  | _, _, .dk h r => .dk (s _ _ h) (RKs.mono s r)
  | _, _, .dt h r => .dt (s _ _ h) (RTs.mono s r)
theorem RVs.mono (s : Same F F') : ∀ {v : List V} {d : List D}, RVs K F v d → RVs K F' v d
  | _, _, .nil => .nil
  | _, _, .cons r t => .cons (RV.mono s r) (RVs.mono s t)
theorem RKs.mono (s : Same F F') : ∀ {v : List (Key × V)} {d : List (Key × D)}, RKs K F v d → RKs K F' v d
  | _, _, .nil => .nil
  | _, _, .cons r t => .cons (RV.mono s r) (RKs.mono s t)
theorem RTs.mono (s : Same F F') : ∀ {v : List (List Key × V)} {d : List (List Key × D)}, RTs K F v d → RTs K F' v d
  | _, _, .nil => .nil
  | _, _, .cons r t => .cons (RV.mono s r) (RTs.mono s t)
end
theorem RVs.length : ∀ {v : List V} {d : List D}, RVs K F v d → v.length = d.length
  | _, _, .nil => rfl
  | _, _, .cons _ t => congrArg (· + 1) (RVs.length t)
theorem RVs.get : ∀ {v : List V} {d : List D} {i : Nat} {x : D}, RVs K F v d → d[i]? = some x → ∃ u, v[i]? = some u ∧ RV K F u x
  | _, _, i, _, .nil, h => by simp at h
  | _, _, 0, _, .cons r _, h => by simp at h; subst h; exact ⟨_, rfl, r⟩
  | _, _, i + 1, _, .cons _ t, h => by simpa using RVs.get (i := i) t (by simpa using h)
theorem RVs.getV : ∀ {v : List V} {d : List D} {i : Nat} {u : V}, RVs K F v d → v[i]? = some u → ∃ x, d[i]? = some x ∧ RV K F u x
  | _, _, i, _, .nil, h => by simp at h
  | _, _, 0, _, .cons r _, h => by simp at h; subst h; exact ⟨_, rfl, r⟩
  | _, _, i + 1, _, .cons _ t, h => by simpa using RVs.getV (i := i) t (by simpa using h)
theorem RVs.append : ∀ {v : List V} {d : List D} {v' : List V} {d' : List D}, RVs K F v d → RVs K F v' d' → RVs K F (v ++ v') (d ++ d')
  | _, _, _, _, .nil, r => r
  | _, _, _, _, .cons a b, r => .cons a (RVs.append b r)
theorem RVs.take : ∀ {v : List V} {d : List D} (n : Nat), RVs K F v d → RVs K F (v.take n) (d.take n)
  | _, _, 0, _ => by simpa using RVs.nil
  | _, _, n + 1, .nil => .nil
  | _, _, n + 1, .cons a b => .cons a (RVs.take n b)
theorem RVs.drop : ∀ {v : List V} {d : List D} (n : Nat), RVs K F v d → RVs K F (v.drop n) (d.drop n)
  | _, _, 0, r => r
  | _, _, n + 1, .nil => .nil
  | _, _, n + 1, .cons _ b => RVs.drop n b
theorem RVs.set : ∀ {v : List V} {d : List D} (n : Nat) {u : V} {x : D}, RVs K F v d → RV K F u x → RVs K F (v.set n u) (d.set n x)
  | _, _, _, _, _, .nil, _ => .nil
  | _, _, 0, _, _, .cons _ b, r => .cons r b
  | _, _, n + 1, _, _, .cons a b, r => .cons a (RVs.set n b r)
theorem RVs.reverse : ∀ {v : List V} {d : List D}, RVs K F v d → RVs K F v.reverse d.reverse
  | _, _, .nil => .nil
  | _, _, .cons a b => by
    rw [List.reverse_cons, List.reverse_cons]
    exact (RVs.reverse b).append (.cons a .nil)
theorem RVs.eraseIdx : ∀ {v : List V} {d : List D} (n : Nat), RVs K F v d → RVs K F (v.eraseIdx n) (d.eraseIdx n)
  | _, _, _, .nil => .nil
  | _, _, 0, .cons _ b => b
  | _, _, n + 1, .cons a b => .cons a (RVs.eraseIdx n b)
theorem RVs.ints : ∀ {v : List V} {ns : List Int}, RVs K F v (ns.map D.int) → v = ns.map V.int
  | _, [], .nil => rfl
  | _, n :: ns, .cons (.int _) t => by rw [List.map_cons, RVs.ints t]
theorem RVs.of_ints : ∀ (ns : List Int), RVs K F (ns.map V.int) (ns.map D.int)
  | [] => .nil
  | n :: ns => .cons (.int n) (RVs.of_ints ns)
end

/-! ### cells, slots -/
def RC (K : PySem.W.Frag) (F H : Hp) (a : Addr) : C → Prop
  | .lst xs => ∃ vs, H a = some (.lst vs) ∧ RVs K F vs xs
  | .dk kvs => ∃ vs, H a = some (.dK vs) ∧ RKs K F vs kvs
  | .dt kvs => ∃ vs, H a = some (.dT vs) ∧ RTs K F vs kvs
theorem RC.any {K : PySem.W.Frag} {F H : Hp} {a : Addr} {c : C} (h : RC K F H a c) : ∃ o, H a = some o := by
  cases c with
  | lst xs => obtain ⟨vs, e, _⟩ := h; exact ⟨_, e⟩
  | dk xs => obtain ⟨vs, e, _⟩ := h; exact ⟨_, e⟩
  | dt xs => obtain ⟨vs, e, _⟩ := h; exact ⟨_, e⟩
theorem RC.mono {K : PySem.W.Frag} {F F' H H' : Hp} {a : Addr} {c : C} (h : RC K F H a c) (s : Same F F') (e : ∀ o, H a = some o → H' a = some o) : RC K F' H' a c := by
  cases c with
  | lst xs => obtain ⟨vs, q, r⟩ := h; exact ⟨vs, e _ q, r.mono s⟩
  | dk xs => obtain ⟨vs, q, r⟩ := h; exact ⟨vs, e _ q, r.mono s⟩
  | dt xs => obtain ⟨vs, q, r⟩ := h; exact ⟨vs, e _ q, r.mono s⟩
def RO (K : PySem.W.Frag) (F H : Hp) (v : V) : O → Prop
  | .d x => RV K F v x
  | .own c => ∃ a, v = .ref a ∧ F a = none ∧ RC K F H a c

/-- the slot i owns the cell at b -/
def Own (σ : List (Option V)) (S : Sl) (b : Addr) : Prop := ∃ (i : Nat) (c : C), S[i]? = some (some (O.own c)) ∧ σ[i]? = some (some (V.ref b))

structure Rel (K : PySem.W.Frag) (F H : Hp) (σ : St) (S : Sl) : Prop where
  sub : Same F H
  sl : ∀ (i : Nat) (r : O), S[i]? = some (some r) → ∃ v, σ[i]? = some (some v) ∧ RO K F H v r
  inj : ∀ (i j : Nat) (c c' : C) (a : Addr), S[i]? = some (some (.own c)) → S[j]? = some (some (.own c')) → σ[i]? = some (some (.ref a)) → σ[j]? = some (some (.ref a)) → i = j
  len : S.length = σ.length
theorem Rel.own {K : PySem.W.Frag} {F H : Hp} {σ : St} {S : Sl} (h : Rel K F H σ S) {b : Addr} (o : Own σ S b) : F b = none ∧ ∃ u, H b = some u := by
  obtain ⟨i, c, e1, e2⟩ := o
  obtain ⟨v, e3, a, e4, e5, e6⟩ := h.sl i _ e1
  rw [e2] at e3
  cases e3
  cases e4
  exact ⟨e5, e6.any⟩

/-- from one state to a later one -/
structure Step (K : PySem.W.Frag) (fx : Nat → Bool) (σ : St) (F H : Hp) (S : Sl) (σ' : St) (F' H' : Hp) (S' : Sl) : Prop where
  rel : Rel K F' H' σ' S'
  mono : Same F F'
  frame : ∀ b o, H b = some o → ¬ Own σ S b → H' b = some o
  there : ∀ b o, H b = some o → ∃ o', H' b = some o'
  grow : ∀ b o, F' b = some o → F b = some o ∨ H b = none ∨ Own σ S b
  own : ∀ (i : Nat) (k : C) (b : Addr), S'[i]? = some (some (.own k)) → σ'[i]? = some (some (.ref b)) → (∃ k0, S[i]? = some (some (.own k0)) ∧ σ[i]? = some (some (.ref b))) ∨ H b = none
  fix : ∀ (i : Nat), fx i = true → σ'[i]? = σ[i]?
  ln : σ'.length = σ.length
section
variable {K : PySem.W.Frag} {fx : Nat → Bool} {σ σ1 σ2 : St} {F H F1 H1 F2 H2 : Hp} {S S1 S2 : Sl}
theorem Step.refl (h : Rel K F H σ S) : Step K fx σ F H S σ F H S :=
  ⟨h, Same.refl _, fun _ _ e _ => e, fun _ o e => ⟨o, e⟩, fun _ _ e => .inl e, fun i k b e1 e2 => .inl ⟨k, e1, e2⟩, fun _ _ => rfl, rfl⟩
theorem Step.ownA (s : Step K fx σ F H S σ1 F1 H1 S1) (b : Addr) (o : Own σ1 S1 b) : Own σ S b ∨ H b = none := by
  obtain ⟨i, k, e1, e2⟩ := o
  rcases s.own i k b e1 e2 with ⟨k0, q1, q2⟩ | q
  · exact .inl ⟨i, k0, q1, q2⟩
  · exact .inr q
theorem Step.non0 (s : Step K fx σ F H S σ1 F1 H1 S1) {b : Addr} (h : H1 b = none) : H b = none := by
  cases q : H b with
  | none => rfl
  | some o =>
    obtain ⟨o', e⟩ := s.there b o q
    rw [h] at e
    cases e
theorem Step.trans (a : Step K fx σ F H S σ1 F1 H1 S1) (b : Step K fx σ1 F1 H1 S1 σ2 F2 H2 S2) : Step K fx σ F H S σ2 F2 H2 S2 := by
  refine ⟨b.rel, a.mono.trans b.mono, fun c o e n => ?_, fun c o e => ?_, fun c o e => ?_, fun i k c e1 e2 => ?_, fun i h => (b.fix i h).trans (a.fix i h), b.ln.trans a.ln⟩
  · refine b.frame c o (a.frame c o e n) fun q => ?_
    rcases a.ownA c q with z | z
    · exact n z
    · rw [e] at z; cases z
  · obtain ⟨o', e'⟩ := a.there c o e
    exact b.there c o' e'
  · rcases b.grow c o e with z | z | z
    · exact a.grow c o z
    · exact .inr (.inl (a.non0 z))
    · rcases a.ownA c z with y | y
      · exact .inr (.inr y)
      · exact .inr (.inl y)
  · rcases b.own i k c e1 e2 with ⟨k0, q1, q2⟩ | z
    · exact a.own i k0 c q1 q2
    · exact .inr (a.non0 z)
end

/-! ### what an expression gives -/
inductive A where
  | sl (i : Nat)
  | v (r : O)
/-- a value just made: data, or a cell that no slot owns, new since H0 -/
def RT (K : PySem.W.Frag) (H0 : Hp) (σ : St) (F H : Hp) (S : Sl) (v : V) : O → Prop
  | .d x => RV K F v x
  | .own c => ∃ a, v = .ref a ∧ F a = none ∧ RC K F H a c ∧ ¬ Own σ S a ∧ H0 a = none
def RA (K : PySem.W.Frag) (H0 : Hp) (σ : St) (F H : Hp) (S : Sl) (v : V) : A → Prop
  | .sl i => σ[i]? = some (some v)
  | .v r => RT K H0 σ F H S v r
section
variable {K : PySem.W.Frag} {fx : Nat → Bool} {σ σ1 σ2 : St} {F H F1 H1 F2 H2 H0 : Hp} {S S1 S2 : Sl} {v : V}
theorem RT.ro {r : O} (h : RT K H0 σ F H S v r) : RO K F H v r := by
  cases r with
  | d x => exact h
  | own c => obtain ⟨a, e, f, rc, _, _⟩ := h; exact ⟨a, e, f, rc⟩
theorem RT.step {r : O} (h : RT K H0 σ1 F1 H1 S1 v r) (s : Step K fx σ1 F1 H1 S1 σ2 F2 H2 S2) : RT K H0 σ2 F2 H2 S2 v r := by
  cases r with
  | d x => exact RV.mono s.mono h
  | own c =>
    obtain ⟨a, e, f, rc, no, nw⟩ := h
    obtain ⟨o, ho⟩ := rc.any
    refine ⟨a, e, ?_, rc.mono s.mono (fun o q => s.frame a o q no), fun q => ?_, nw⟩
    · cases q : F2 a with
      | none => rfl
      | some u =>
        rcases s.grow a u q with z | z | z
        · rw [f] at z; cases z
        · rw [ho] at z; cases z
        · exact absurd z no
    · rcases s.ownA a q with z | z
      · exact no z
      · rw [ho] at z; cases z
theorem RT.older {r : O} (h : RT K H1 σ2 F2 H2 S2 v r) (s : Step K fx σ F H S σ1 F1 H1 S1) : RT K H σ2 F2 H2 S2 v r := by
  cases r with
  | d x => exact h
  | own c => obtain ⟨a, e, f, rc, no, nw⟩ := h; exact ⟨a, e, f, rc, no, s.non0 nw⟩
theorem RA.older {a : A} (h : RA K H1 σ2 F2 H2 S2 v a) (s : Step K fx σ F H S σ1 F1 H1 S1) : RA K H σ2 F2 H2 S2 v a := by
  cases a with
  | sl i => exact h
  | v r => exact RT.older h s
/-- within an expression (the slots stand) -/
theorem RA.step {a : A} (h : RA K H0 σ F1 H1 S1 v a) (s : Step K fx σ F1 H1 S1 σ F2 H2 S2) : RA K H0 σ F2 H2 S2 v a := by
  cases a with
  | sl i => exact h
  | v r => exact RT.step h s
end
/-- what is to be seen of it now -/
@[simp] def view : A → Sl → Option O
  | .sl i, S => (S[i]?).join
  | .v r, _ => some r
theorem RA.ro {K : PySem.W.Frag} {σ : St} {F H H0 : Hp} {S : Sl} {v : V} {a : A} {r : O} (h : RA K H0 σ F H S v a) (R : Rel K F H σ S) (e : view a S = some r) : RO K F H v r := by
  cases a with
  | sl i =>
    have e' : S[i]? = some (some r) := by
      cases q : S[i]? with
      | none => simp [view, q] at e
      | some z => simp [view, q] at e; rw [e]
    obtain ⟨u, e1, ro⟩ := R.sl i r e'
    have h' : σ[i]? = some (some v) := h
    rw [e1] at h'
    cases h'
    exact ro
  | v r' =>
    have e' : r' = r := by simpa [view] using e
    subst e'
    exact RT.ro h

/-- how an exception stands -/
def RX (K : PySem.W.Frag) (mg : Str → Option Value) (F H : Hp) (cv : Value) (dx : Option Addr) (x : Ex) : Prop :=
  ∃ (c : Addr), mg x.cls = some (.ref c) ∧ cv = .ref c ∧ match x.fs with
    | [] => dx = none
    | _ => ∃ d fs, dx = some d ∧ F d = none ∧ H d = some (.xd fs) ∧ Paired (fun (p : Str × V) (q : Str × D) => p.1 = q.1 ∧ RV K F p.2 q.2) fs x.fs

/-- the context of readings: K, mg, the slots that stand, what is wanted of an exception -/
structure Ct where
  K : PySem.W.Frag
  mg : Str → Option Value
  fx : Nat → Bool
  E : XK
  /-- the start of the def's body -/
  σ_0 : St
  F_0 : Hp
  H_0 : Hp
  S_0 : Sl


/-- how a result lies: the heap at the start, the slots, the frozen heap, the heap, the slots' contents, the value, the result -/
abbrev RRel (α β : Type) := Hp → St → Hp → Hp → Sl → β → α → Prop
/-- what is wanted behind a part that began at (F, H, S) -/
def Gat (c : Ct) {α β : Type} (RR : RRel α β) (σ : St) (F H : Hp) (S : Sl) (Q : β → Hp → Prop) : Res α → Prop
  | .ok a S' => ∀ v F' H', Step c.K c.fx σ F H S σ F' H' S' → RR H σ F' H' S' v a → Q v H'
  | .exc x S' => ∀ F' H' cv dx, Step c.K c.fx σ F H S σ F' H' S' → RX c.K c.mg F' H' cv dx x → c.E cv dx H'
  | .bad => False
/-- a functional reading -/
def G (c : Ct) {α β : Type} (RR : RRel α β) (f : Mn α) : St → Hp → (β → Hp → Prop) → Prop := fun σ H Q => ∃ F S, Rel c.K F H σ S ∧ Gat c RR σ F H S Q (f S)
/-- an expression's -/
abbrev T (c : Ct) (f : Mn A) : TE := G c (RA c.K) f
/-- a test's -/
abbrev TB (c : Ct) (f : Mn Bool) : TT := G c (fun _ _ _ _ _ (w : Bool) (b : Bool) => w = b) f
/-- a slice's part -/
abbrev TP (c : Ct) (f : Mn (Option Int)) : TO := G c (fun _ _ _ _ _ (w : Option Int) (b : Option Int) => w = b) f

section
variable {c : Ct} {σ : St} {F0 H0 F H : Hp} {S0 S : Sl} {α β γ δ : Type} {RR : RRel α β} {RR' : RRel γ δ} {Q : δ → Hp → Prop}
/-- the first part f, then g; from any state behind the start -/
theorem Gat.bind {f : Mn α} {g : α → Mn γ} (s : Step c.K c.fx σ F0 H0 S0 σ F H S) (h : Gat c RR' σ F0 H0 S0 Q (bnd f g S)) :
    G c RR f σ H (fun v H2 => ∃ a F2 S2, Step c.K c.fx σ F0 H0 S0 σ F2 H2 S2 ∧ Step c.K c.fx σ F H S σ F2 H2 S2 ∧ RR H σ F2 H2 S2 v a ∧ Gat c RR' σ F0 H0 S0 Q (g a S2)) := by
  refine ⟨F, S, s.rel, ?_⟩
  unfold bnd at h
  cases e : f S with
  | bad => rw [e] at h; exact h
  | exc x S' =>
    rw [e] at h
    exact fun F' H' cv dx st rx => h F' H' cv dx (s.trans st) rx
  | ok a S' =>
    rw [e] at h
    exact fun v F' H' st ra => ⟨a, F', S', s.trans st, st, ra, h⟩
theorem G.bind {f : Mn α} {g : α → Mn γ} (h : G c RR' (bnd f g) σ H Q) :
    G c RR f σ H (fun v H2 => ∃ F S a F2 S2, Step c.K c.fx σ F H S σ F2 H2 S2 ∧ RR H σ F2 H2 S2 v a ∧ Gat c RR' σ F H S Q (g a S2)) := by
  obtain ⟨F, S, R, h⟩ := h
  obtain ⟨F', S', R', h'⟩ := Gat.bind (RR := RR) (f := f) (g := g) (Step.refl R) h
  refine ⟨F', S', R', ?_⟩
  cases e : f S' with
  | bad => rw [e] at h'; exact h'
  | exc x S' => rw [e] at h'; exact h'
  | ok a S2 =>
    rw [e] at h'
    intro v F2 H2 st ra
    obtain ⟨b, F3, S3, s1, s2, rb, g'⟩ := h' v F2 H2 st ra
    exact ⟨F, S, b, F3, S3, s1, rb, g'⟩
theorem G.imp {f : Mn γ} {Q' : δ → Hp → Prop} (h : G c RR' f σ H Q) (m : ∀ v H', Q v H' → Q' v H') : G c RR' f σ H Q' := by
  obtain ⟨F, S, R, h⟩ := h
  refine ⟨F, S, R, ?_⟩
  cases e : f S with
  | bad => rw [e] at h; exact h
  | exc x S' => rw [e] at h; exact h
  | ok a S2 =>
    rw [e] at h
    exact fun v F' H' st ra => m _ _ (h v F' H' st ra)
end

/-! ### growth: new things only -/
structure Grow (F H F' H' : Hp) : Prop where
  sub : Same F' H'
  fm : Same F F'
  hm : Same H H'
  gr : ∀ b o, F' b = some o → F b = some o ∨ H b = none
theorem Grow.refl {F H : Hp} (h : Same F H) : Grow F H F H := ⟨h, Same.refl _, Same.refl _, fun _ _ e => .inl e⟩
theorem Grow.step {K : PySem.W.Frag} {fx : Nat → Bool} {σ : St} {F H F' H' : Hp} {S : Sl} (g : Grow F H F' H') (R : Rel K F H σ S) : Step K fx σ F H S σ F' H' S := by
  refine ⟨⟨g.sub, fun i r e => ?_, R.inj, R.len⟩, g.fm, fun b o e _ => g.hm b o e, fun b o e => ⟨o, g.hm b o e⟩, fun b o e => ?_, fun i k b e1 e2 => .inl ⟨k, e1, e2⟩, fun _ _ => rfl, rfl⟩
  · obtain ⟨v, e1, ro⟩ := R.sl i r e
    refine ⟨v, e1, ?_⟩
    cases r with
    | d x => exact RV.mono g.fm ro
    | own k =>
      obtain ⟨a, e2, f, rc⟩ := ro
      refine ⟨a, e2, ?_, rc.mono g.fm (fun o q => g.hm a o q)⟩
      obtain ⟨o, ho⟩ := rc.any
      cases q : F' a with
      | none => rfl
      | some u =>
        rcases g.gr a u q with z | z
        · rw [f] at z; cases z
        · rw [ho] at z; cases z
  · rcases g.gr b o e with z | z
    · exact .inl z
    · exact .inr (.inl z)
theorem same_upd {H : Hp} {p : Addr} {o : HO} (h : H p = none) : Same H (upd H p o) := fun b x e => by
  rw [upd_ne (ne_of_none e h)]
  exact e
/-- a new frozen object -/
theorem Grow.new {F H : Hp} {p : Addr} {o : HO} (h : Same F H) (hp : H p = none) : Grow F H (upd F p o) (upd H p o) := by
  have fp : F p = none := h.free hp
  refine ⟨fun b x e => ?_, same_upd fp, same_upd hp, fun b x e => ?_⟩
  · by_cases hb : b = p
    · subst hb; rw [upd_same] at e ⊢; exact e
    · rw [upd_ne hb] at e ⊢; exact h b x e
  · by_cases hb : b = p
    · subst hb; exact .inr hp
    · rw [upd_ne hb] at e; exact .inl e
/-- a new cell -/
theorem Grow.cell {F H : Hp} {p : Addr} {o : HO} (h : Same F H) (hp : H p = none) : Grow F H F (upd H p o) :=
  ⟨h.trans (same_upd hp), Same.refl _, same_upd hp, fun _ _ e => .inl e⟩
/-- a new value -/
def RN (K : PySem.W.Frag) (H0 F H : Hp) (v : V) : O → Prop
  | .d x => RV K F v x
  | .own c => ∃ a, v = .ref a ∧ F a = none ∧ RC K F H a c ∧ H0 a = none
theorem RN.rt {K : PySem.W.Frag} {fx : Nat → Bool} {σ : St} {F H F' H' : Hp} {S : Sl} {v : V} {r : O} (n : RN K H F' H' v r) (g : Grow F H F' H') (R : Rel K F H σ S) : RT K H σ F' H' S v r := by
  cases r with
  | d x => exact n
  | own c =>
    obtain ⟨a, e, f, rc, nw⟩ := n
    refine ⟨a, e, f, rc, fun o => ?_, nw⟩
    obtain ⟨_, u, hu⟩ := R.own o
    rw [nw] at hu
    cases hu
/-- an operation's end -/
@[simp] def lift (r : Option O) : Mn A := fun S => match r with
  | some r => .ok (.v r) S
  | none => .bad
theorem gat_lift {c : Ct} {σ : St} {F0 H0 F H : Hp} {S0 S : Sl} {Q : VK} {r : Option O} (s : Step c.K c.fx σ F0 H0 S0 σ F H S) (h : Gat c (RA c.K) σ F0 H0 S0 Q (lift r S)) :
    ∃ x, r = some x ∧ ∀ v F' H', Grow F H F' H' → RN c.K H F' H' v x → Q v H' := by
  cases r with
  | none => exact h.elim
  | some x =>
    refine ⟨x, rfl, fun v F' H' g n => ?_⟩
    exact h v F' H' (s.trans (g.step s.rel)) (RT.older (n.rt (fx := c.fx) g s.rel) s)
/-- one operand -/
def Op1 (K : PySem.W.Frag) (g : O → Option O) (R : V → Hp → VK → Prop) : Prop :=
  ∀ F H v r s Q, Same F H → RO K F H v r → g r = some s → (∀ v' F' H', Grow F H F' H' → RN K H F' H' v' s → Q v' H') → R v H Q
def Op2 (K : PySem.W.Frag) (g : O → O → Option O) (R : R2) : Prop :=
  ∀ F H v w r s t Q, Same F H → RO K F H v r → RO K F H w s → g r s = some t → (∀ v' F' H', Grow F H F' H' → RN K H F' H' v' t → Q v' H') → R v w H Q
@[simp] def op1 (g : O → Option O) (f : Mn A) : Mn A := bnd f fun a S => lift ((view a S).bind g) S
@[simp] def op2 (g : O → O → Option O) (f h : Mn A) : Mn A := bnd f fun a => bnd h fun b S => lift ((view a S).bind fun x => (view b S).bind (g x)) S
theorem PE.mono {X : Cx} {e : Expr} {t t' : TE} (h : PE X e t) (m : ∀ σ H Q, t' σ H Q → t σ H Q) : PE X e t' := ⟨fun pins s σ H Q I q => h.run pins s σ H Q I (m σ H Q q)⟩
theorem PT.mono {X : Cx} {e : Expr} {t t' : TT} (h : PT X e t) (m : ∀ σ H Q, t' σ H Q → t σ H Q) : PT X e t' := ⟨fun pins s σ H Q I q => h.run pins s σ H Q I (m σ H Q q)⟩
theorem PW.mono {X : Cx} {e : Expr} {t t' : TT} (h : PW X e t) (m : ∀ σ H Q, t' σ H Q → t σ H Q) : PW X e t' := ⟨fun w pins s σ H Q I q => h.run w pins s σ H Q I (m σ H Q q)⟩
theorem PA.mono {X : Cx} {es : List Expr} {t t' : TA} (h : PA X es t) (m : ∀ σ H Q, t' σ H Q → t σ H Q) : PA X es t' := ⟨fun p pins s σ H Q I q => h.run p pins s σ H Q I (m σ H Q q)⟩
theorem PS.mono {X : Cx} {st : Stmt} {t t' : TS} (h : PS X st t) (m : ∀ D σ H, t' D σ H → t D σ H) : PS X st t' := ⟨fun pins s σ H D I q => h.run pins s σ H D I (m D σ H q)⟩
theorem PSs.mono {X : Cx} {st : List Stmt} {t t' : TS} (h : PSs X st t) (m : ∀ D σ H, t' D σ H → t D σ H) : PSs X st t' := ⟨fun pins s σ H D I q => h.run pins s σ H D I (m D σ H q)⟩
theorem PG.mono {X : Cx} {e : Expr} {t t' : TG} (h : PG X e t) (m : ∀ v σ H Q, t' v σ H Q → t v σ H Q) : PG X e t' := ⟨fun pins s σ H v u Q I r q => h.run pins s σ H v u Q I r (m v σ H Q q)⟩
theorem PI.mono {X : Cx} {tg e : Expr} {t t' : TI} (h : PI X tg e t) (m : ∀ σ H R, t' σ H R → t σ H R) : PI X tg e t' := ⟨fun pins s σ H R I q => h.run pins s σ H R I (m σ H R q)⟩

theorem T_op1 {c : Ct} {g : O → Option O} {R : V → Hp → VK → Prop} (ho : Op1 c.K g R) {f : Mn A} (σ : St) (H : Hp) (Q : VK) (h : T c (op1 g f) σ H Q) : tUn R (T c f) σ H Q := by
  obtain ⟨F0, S0, R0, h⟩ := h
  refine G.imp (Gat.bind (Step.refl R0) h) fun v H1 ⟨a, F1, S1, s1, _, ra, g1⟩ => ?_
  obtain ⟨x, ex, k⟩ := gat_lift s1 g1
  obtain ⟨r, er, ex⟩ := Option.bind_eq_some_iff.mp ex
  exact ho F1 H1 v r x Q s1.rel.sub (ra.ro s1.rel er) ex k
theorem T_op2 {c : Ct} {g : O → O → Option O} {R : R2} (ho : Op2 c.K g R) {f f' : Mn A} (σ : St) (H : Hp) (Q : VK) (h : T c (op2 g f f') σ H Q) : tOp R (T c f) (T c f') σ H Q := by
  obtain ⟨F0, S0, R0, h⟩ := h
  refine G.imp (Gat.bind (Step.refl R0) h) fun v H1 ⟨a, F1, S1, s1, _, ra, g1⟩ => ?_
  refine G.imp (Gat.bind s1 g1) fun w H2 ⟨b, F2, S2, s2, s12, rb, g2⟩ => ?_
  obtain ⟨t, et, k⟩ := gat_lift s2 g2
  obtain ⟨x, ex, et⟩ := Option.bind_eq_some_iff.mp et
  obtain ⟨y, ey, et⟩ := Option.bind_eq_some_iff.mp et
  exact ho F2 H2 v w x y t Q s2.rel.sub ((ra.step s12).ro s2.rel ex) (rb.ro s2.rel ey) et k

theorem PE.or {X : Cx} {e : Expr} {t t' : TE} (h : PE X e t) (h' : PE X e t') : PE X e (fun σ H Q => t σ H Q ∨ t' σ H Q) := ⟨fun pins s σ H Q I q => q.elim (h.run pins s σ H Q I) (h'.run pins s σ H Q I)⟩
/-- the first that answers -/
@[simp] def alt2 (g h : O → O → Option O) : O → O → Option O := fun x y => match g x y with
  | some z => some z
  | none => h x y
theorem gat_some {c : Ct} {σ : St} {F H : Hp} {S : Sl} {Q : VK} {r r' : Option O} (S' : Sl) (h : Gat c (RA c.K) σ F H S Q (lift r S')) (e : ∀ x, r = some x → r' = some x) : Gat c (RA c.K) σ F H S Q (lift r' S') := by
  cases r with
  | none => exact h.elim
  | some x => rw [e x rfl]; exact h
theorem t_alt2 {c : Ct} {g h : O → O → Option O} {f f' : Mn A} {σ : St} {H : Hp} {Q : VK} (q : T c (op2 (alt2 g h) f f') σ H Q) : T c (op2 g f f') σ H Q ∨ T c (op2 h f f') σ H Q := by
  obtain ⟨F, S, R, q⟩ := q
  unfold op2 bnd at q
  simp only at q
  cases e1 : f S with
  | bad => rw [e1] at q; exact q.elim
  | exc x S' => rw [e1] at q; exact .inl ⟨F, S, R, by unfold op2 bnd; rw [e1]; exact q⟩
  | ok a S1 =>
    rw [e1] at q
    simp only at q
    cases e2 : f' S1 with
    | bad => rw [e2] at q; exact q.elim
    | exc x S' => rw [e2] at q; exact .inl ⟨F, S, R, by unfold op2 bnd; rw [e1]; simp only; rw [e2]; exact q⟩
    | ok b S2 =>
      rw [e2] at q
      simp only at q
      cases v1 : view a S2 with
      | none => rw [v1] at q; exact q.elim
      | some x =>
        cases v2 : view b S2 with
        | none => rw [v1, v2] at q; exact q.elim
        | some y =>
          rw [v1, v2] at q
          simp only [Option.bind_some, _root_.FR.alt2] at q
          cases eg : g x y with
          | some z =>
            rw [eg] at q
            refine .inl ⟨F, S, R, ?_⟩
            unfold op2 bnd
            simp only [e1, e2, v1, v2, Option.bind_some, eg]
            exact q
          | none =>
            rw [eg] at q
            refine .inr ⟨F, S, R, ?_⟩
            unfold op2 bnd
            simp only [e1, e2, v1, v2, Option.bind_some]
            exact q
end FR

namespace FR
open PySem PySem.Spec L2

/-! ### frozen values -/
@[simp] def fz : C → D
  | .lst xs => .lst xs
  | .dk kvs => .dk kvs
  | .dt kvs => .dt kvs
/-- what stands at a, frozen -/
theorem RC.frozen {K : PySem.W.Frag} {F H : Hp} {a : Addr} {c : C} (h : RC K F H a c) (s : Same F H) (n : F a = none) : ∃ o, H a = some o ∧ Same F (upd F a o) ∧ Same (upd F a o) H ∧ RV K (upd F a o) (.ref a) (fz c) := by
  have go : ∀ o, H a = some o → Same F (upd F a o) ∧ Same (upd F a o) H := fun o e => by
    refine ⟨same_upd n, fun b x q => ?_⟩
    by_cases hb : b = a
    · subst hb; rw [upd_same] at q; rw [← q]; exact e
    · rw [upd_ne hb] at q; exact s b x q
  cases c with
  | lst xs =>
    obtain ⟨vs, e, r⟩ := h
    obtain ⟨g1, g2⟩ := go _ e
    exact ⟨_, e, g1, g2, .lst upd_same (r.mono g1)⟩
  | dk xs =>
    obtain ⟨vs, e, r⟩ := h
    obtain ⟨g1, g2⟩ := go _ e
    exact ⟨_, e, g1, g2, .dk upd_same (r.mono g1)⟩
  | dt xs =>
    obtain ⟨vs, e, r⟩ := h
    obtain ⟨g1, g2⟩ := go _ e
    exact ⟨_, e, g1, g2, .dt upd_same (r.mono g1)⟩
section
variable {K : PySem.W.Frag} {fx : Nat → Bool} {σ : St} {F H F0 H0 : Hp} {S S0 : Sl} {v : V}
/-- the cell of the slot i is frozen -/
theorem Step.freeze {i : Nat} {k : C} {v : V} (R : Rel K F H σ S) (e : S[i]? = some (some (.own k))) (ev : σ[i]? = some (some v)) : ∃ F', Step K fx σ F H S σ F' H (S.set i (some (.d (fz k)))) ∧ RV K F' v (fz k) ∧ ∀ b, ¬ Own σ S b → F' b = F b := by
  obtain ⟨u, e1, a, e2, f, rc⟩ := R.sl i _ e
  rw [ev] at e1
  cases e1
  subst e2
  obtain ⟨o, ho, m1, m2, rv⟩ := rc.frozen R.sub f
  have hi : i < S.length := by
    rcases Nat.lt_or_ge i S.length with h | h
    · exact h
    · rw [List.getElem?_eq_none h] at e; cases e
  have ow : Own σ S a := ⟨i, k, e, ev⟩
  refine ⟨upd F a o, ⟨⟨m2, fun j r q => ?_, fun j l c c' b q1 q2 q3 q4 => ?_, ?_⟩, m1, fun b x q _ => q, fun b x q => ⟨x, q⟩, fun b x q => ?_, fun j c b q1 q2 => ?_, fun _ _ => rfl, rfl⟩, rv, fun b nb => upd_ne fun z => nb (z ▸ ow)⟩
  · by_cases hj : i = j
    · subst hj
      rw [List.getElem?_set_self hi] at q
      cases q
      exact ⟨_, ev, rv⟩
    · rw [List.getElem?_set_ne hj] at q
      obtain ⟨w, e3, ro⟩ := R.sl j r q
      refine ⟨w, e3, ?_⟩
      cases r with
      | d x => exact RV.mono m1 ro
      | own c =>
        obtain ⟨b, e4, f', rc'⟩ := ro
        refine ⟨b, e4, ?_, rc'.mono m1 fun o q => q⟩
        have hb : b ≠ a := fun z => hj (R.inj i j k c a e q ev (by rw [e3, e4, z]))
        rw [upd_ne hb]
        exact f'
  · have n1 : ∀ {j : Nat} {c : C}, (S.set i (some (.d (fz k))))[j]? = some (some (O.own c)) → S[j]? = some (some (O.own c)) := fun {j c} q => by
      by_cases hj : i = j
      · subst hj; rw [List.getElem?_set_self hi] at q; cases q
      · rw [List.getElem?_set_ne hj] at q; exact q
    exact R.inj j l c c' b (n1 q1) (n1 q2) q3 q4
  · rw [List.length_set]; exact R.len
  · by_cases hb : b = a
    · subst hb; exact .inr (.inr ow)
    · rw [upd_ne hb] at q; exact .inl q
  · refine .inl ⟨c, ?_, q2⟩
    by_cases hj : i = j
    · subst hj; rw [List.getElem?_set_self hi] at q1; cases q1
    · rw [List.getElem?_set_ne hj] at q1; exact q1
/-- a cell made since the start is frozen -/
theorem Step.freezeT {k : C} {a : Addr} (s : Step K fx σ F0 H0 S0 σ F H S) (f : F a = none) (rc : RC K F H a k) (no : ¬ Own σ S a) (nw : H0 a = none) : ∃ F', Step K fx σ F0 H0 S0 σ F' H S ∧ Same F F' ∧ (∀ b, b ≠ a → F' b = F b) ∧ RV K F' (.ref a) (fz k) := by
  obtain ⟨o, ho, m1, m2, rv⟩ := rc.frozen s.rel.sub f
  refine ⟨upd F a o, ⟨⟨m2, fun j r q => ?_, s.rel.inj, s.rel.len⟩, s.mono.trans m1, s.frame, s.there, fun b x q => ?_, s.own, s.fix, s.ln⟩, m1, fun b hb => upd_ne hb, rv⟩
  · obtain ⟨w, e3, ro⟩ := s.rel.sl j r q
    refine ⟨w, e3, ?_⟩
    cases r with
    | d x => exact RV.mono m1 ro
    | own c =>
      obtain ⟨b, e4, f', rc'⟩ := ro
      refine ⟨b, e4, ?_, rc'.mono m1 fun o q => q⟩
      have hb : b ≠ a := fun z => no ⟨j, c, q, by rw [e3, e4, z]⟩
      rw [upd_ne hb]
      exact f'
  · by_cases hb : b = a
    · subst hb; exact .inr (.inl nw)
    · rw [upd_ne hb] at q; exact s.grow b x q
end

/-- a name's cell is frozen where it is handed on -/
@[simp] def toV (a : A) : Mn A := fun S => match a with
  | .v r => .ok (.v r) S
  | .sl i => match S[i]? with
    | some (some (.d x)) => .ok (.v (.d x)) S
    | some (some (.own k)) => .ok (.v (.d (fz k))) (S.set i (some (.d (fz k))))
    | _ => .bad
@[simp] def vl (f : Mn A) : Mn A := bnd f toV
theorem t_vl {c : Ct} {f : Mn A} (σ : St) (H : Hp) (Q : VK) (h : T c (vl f) σ H Q) : T c f σ H Q := by
  obtain ⟨F0, S0, R0, h⟩ := h
  refine G.imp (Gat.bind (Step.refl R0) h) fun v H1 ⟨a, F1, S1, s1, _, ra, g⟩ => ?_
  cases a with
  | v r => exact g v F1 H1 s1 ra
  | sl i =>
    have ra' : σ[i]? = some (some v) := ra
    cases e : S1[i]? with
    | none => simp only [toV, e] at g; exact g.elim
    | some z =>
      cases z with
      | none => simp only [toV, e] at g; exact g.elim
      | some r =>
        cases r with
        | d x =>
          simp only [toV, e] at g
          obtain ⟨u, e1, ro⟩ := s1.rel.sl i _ e
          rw [ra'] at e1
          cases e1
          exact g v F1 H1 s1 ro
        | own k =>
          simp only [toV, e] at g
          obtain ⟨F', st, rv, _⟩ := Step.freeze (fx := c.fx) s1.rel e ra'
          exact g v F' H1 (s1.trans st) rv
theorem he_vl {X : Cx} {c : Ct} {e : Expr} {f : Mn A} (h : PE X e (T c f)) : PE X e (T c (vl f)) := PE.mono h t_vl

/-! ### names, constants -/
@[simp] def nm (i : Nat) : Mn A := fun S => match S[i]? with
  | some (some _) => .ok (.sl i) S
  | _ => .bad
theorem t_nm {c : Ct} {i : Nat} (σ : St) (H : Hp) (Q : VK) (h : T c (nm i) σ H Q) : tVar i σ H Q := by
  obtain ⟨F, S, R, h⟩ := h
  cases e : S[i]? with
  | none => simp only [nm, e] at h; exact h.elim
  | some z =>
    cases z with
    | none => simp only [nm, e] at h; exact h.elim
    | some r =>
      simp only [nm, e] at h
      obtain ⟨v, ev, ro⟩ := R.sl i r e
      exact ⟨v, ev, h v F H (Step.refl R) ev⟩
theorem he_nm {X : Cx} {c : Ct} (i : Nat) {x : Str} {pos : Pos} (hN : X.N[i]? = some x := by rfl) (hv : Vis X.env.scope x := by first | exact Or.inl rfl | exact Or.inr (Or.inl rfl) | exact Or.inr (Or.inr rfl)) (hd : (x == ("__debug__" : Str)) = false := by decide)
    (hcd : (x == ("__classdict__" : Str)) = false := by decide) : PE X (.Name x pos) (T c (nm i)) := PE.mono (pv i hN hv hd hcd) t_nm
@[simp] def kd (x : D) : Mn A := ret (.v (.d x))
theorem t_kd {c : Ct} {v : V} {x : D} (h : ∀ F, RV c.K F v x) (σ : St) (H : Hp) (Q : VK) (q : T c (kd x) σ H Q) : tC v σ H Q := by
  obtain ⟨F, S, R, q⟩ := q
  exact q v F H (Step.refl R) (h F)
section
variable {X : Cx} {c : Ct}
theorem he_int {i j pos} : PE X (.Constant (.int i) j pos) (T c (kd (.int i))) := PE.mono pe_int (t_kd fun _ => .int i)
theorem he_bl {b j pos} : PE X (.Constant (.bool b) j pos) (T c (kd (.bl b))) := PE.mono pe_bl (t_kd fun _ => .bl b)
theorem he_non {j pos} : PE X (.Constant .none j pos) (T c (kd .non)) := PE.mono pe_non (t_kd fun _ => .non)
theorem he_str {x j pos} : PE X (.Constant (.str x) j pos) (T c (kd (.str x))) := PE.mono pe_str (t_kd fun _ => .str x)
/-- a built-in class as a value -/
theorem he_ty {x : Str} {n : String} {pos : Pos} (hg : Gl X x) (hm : X.mg x = none) (hv : bootBuiltins x = some (.type n)) (hn : x ≠ "__name__" := by decide) (hd : (x == ("__debug__" : Str)) = false := by decide) :
    PE X (.Name x pos) (T c (kd (.ty n))) := PE.mono (pe_bltn (v := .ty n) hg hm hv rfl hn hd) (t_kd fun _ => .ty n)
/-- a module's constant -/
theorem he_glob {x : Str} {v : V} {u : Value} {d : D} {pos : Pos} (hg : Gl X x) (hm : X.mg x = some u) (r : RelV v u) (h : ∀ F, RV c.K F v d) (hd : (x == ("__debug__" : Str)) = false := by decide) : PE X (.Name x pos) (T c (kd d)) := PE.mono (pe_glob hg hm r hd) (t_kd h)
end

/-! ### operators -/
theorem OpR.or {X : Cx} {f : Value → Value → Sem Value} {r r' : R2} (h : OpR X f r) (h' : OpR X f r') : OpR X f (fun x y H Q => r x y H Q ∨ r' x y H Q) := by
  intro pins s σ H x y v u Q I rx ry q
  rcases q with q | q
  · exact h pins s σ H x y v u Q I rx ry q
  · exact h' pins s σ H x y v u Q I rx ry q
section
variable {X : Cx} {c : Ct} {a b e : Expr} {f g : Mn A} {pos : Pos}
theorem he_op {op : Operator} {R : R2} {k : O → O → Option O} (ho : OpR X (binaryOp op) R) (hk : Op2 c.K k R) (ha : PE X a (T c f)) (hb : PE X b (T c g)) : PE X (.BinOp a op b pos) (T c (op2 k f g)) := PE.mono (pe_op ho ha hb) (T_op2 hk)
theorem he_un {op : UnaryOp} {R : V → Hp → VK → Prop} {k : O → Option O} (ho : UnR X (unaryOp op) R) (hk : Op1 c.K k R) (ha : PE X a (T c f)) : PE X (.UnaryOp op a pos) (T c (op1 k f)) := PE.mono (pe_un ho ha) (T_op1 hk)
theorem he_cmp {op : CmpOp} {R : R2} {k : O → O → Option O} (ho : OpR X (compareOp op) R) (hk : Op2 c.K k R) (ha : PE X a (T c f)) (hb : PE X b (T c g)) (hm : behindInMarks op b = false) : PE X (.Compare a [op] [b] pos) (T c (op2 k f g)) := PE.mono (pe_cmpR ho ha hb hm) (T_op2 hk)
end
/-- ints -/
@[simp] def i2 (p : Int → Int → Bool) (k : Int → Int → D) : O → O → Option O
  | .d (.int i), .d (.int j) => if p i j then some (.d (k i j)) else none
  | _, _ => none
theorem RV.int_inv {K : PySem.W.Frag} {F : Hp} {v : V} {i : Int} (h : RV K F v (.int i)) : v = .int i := by cases h; rfl
theorem RV.bl_inv {K : PySem.W.Frag} {F : Hp} {v : V} {i : Bool} (h : RV K F v (.bl i)) : v = .bl i := by cases h; rfl
theorem RV.str_inv {K : PySem.W.Frag} {F : Hp} {v : V} {i : Str} (h : RV K F v (.str i)) : v = .str i := by cases h; rfl
theorem RV.non_inv {K : PySem.W.Frag} {F : Hp} {v : V} (h : RV K F v .non) : v = .non := by cases h; rfl
theorem RV.tup_inv {K : PySem.W.Frag} {F : Hp} {v : V} {ds : List D} (h : RV K F v (.tup ds)) : ∃ a vs, v = .ref a ∧ F a = some (.tup vs) ∧ RVs K F vs ds := by cases h with | tup h r => exact ⟨_, _, rfl, h, r⟩
theorem RV.kt_inv {K : PySem.W.Frag} {F : Hp} {v : V} {ds : List D} (h : RV K F v (.kt ds)) : ∃ a vs, v = .ref a ∧ SqT K F a vs ∧ RVs K F vs ds := by cases h with | kt h r => exact ⟨_, _, rfl, h, r⟩
theorem RV.lst_inv {K : PySem.W.Frag} {F : Hp} {v : V} {ds : List D} (h : RV K F v (.lst ds)) : ∃ a vs, v = .ref a ∧ F a = some (.lst vs) ∧ RVs K F vs ds := by cases h with | lst h r => exact ⟨_, _, rfl, h, r⟩
theorem RV.lk_inv {K : PySem.W.Frag} {F : Hp} {v : V} {ds : List D} (h : RV K F v (.lk ds)) : ∃ a vs, v = .ref a ∧ SqL K F a vs ∧ RVs K F vs ds := by cases h with | lk h r => exact ⟨_, _, rfl, h, r⟩
theorem i2_rI {K : PySem.W.Frag} {p : Int → Int → Bool} {k : Int → Int → D} {P : Int → Int → Prop} {w : Int → Int → V} (hp : ∀ i j, p i j = true → P i j) (hk : ∀ i j F, RV K F (w i j) (k i j)) : Op2 K (i2 p k) (rI P w) := by
  intro F H v u r s t Q sm r1 r2 e q
  cases r with
  | own c => simp at e
  | d x =>
    cases s with
    | own c => cases x <;> simp at e
    | d y =>
      cases x with
      | int i =>
        cases y with
        | int j =>
          simp only [i2] at e
          split at e
          · rename_i h
            cases e
            exact ⟨i, j, RV.int_inv r1, RV.int_inv r2, hp i j h, q _ F H (Grow.refl sm) (hk i j F)⟩
          · cases e
        | _ => simp at e
      | _ => simp at e
theorem i2_rI0 {K : PySem.W.Frag} {k : Int → Int → D} {w : Int → Int → V} (hk : ∀ i j F, RV K F (w i j) (k i j)) : Op2 K (i2 (fun _ _ => true) k) (rI0 w) := by
  intro F H v u r s t Q sm r1 r2 e q
  obtain ⟨i, j, e1, e2, _, q'⟩ := i2_rI (P := fun _ _ => True) (fun _ _ _ => trivial) hk F H v u r s t Q sm r1 r2 e q
  exact ⟨i, j, e1, e2, q'⟩
end FR

namespace FR
open PySem PySem.Spec L2

/-! ### views -/
@[simp] def oL : O → Option (List D)
  | .d (.lst xs) => some xs
  | .d (.lk xs) => some xs
  | .own (.lst xs) => some xs
  | _ => none
@[simp] def oT : O → Option (List D)
  | .d (.tup xs) => some xs
  | .d (.kt xs) => some xs
  | _ => none
section
variable {K : PySem.W.Frag} {F H : Hp} {v : V} {r : O} {xs : List D}
theorem RO.seqL (h : RO K F H v r) (s : Same F H) (e : oL r = some xs) : ∃ a vs, v = .ref a ∧ SqL K H a vs ∧ RVs K F vs xs := by
  cases r with
  | d x =>
    cases x with
    | lst ys => cases e; obtain ⟨a, vs, e1, e2, e3⟩ := RV.lst_inv h; exact ⟨a, vs, e1, .inl (.inl (s _ _ e2)), e3⟩
    | lk ys => cases e; obtain ⟨a, vs, e1, e2, e3⟩ := RV.lk_inv h; exact ⟨a, vs, e1, s.seq e2, e3⟩
    | _ => cases e
  | own k =>
    cases k with
    | lst ys => cases e; obtain ⟨a, e1, f, vs, e2, e3⟩ := h; exact ⟨a, vs, e1, .inl (.inl e2), e3⟩
    | dk ys => cases e
    | dt ys => cases e
theorem RO.seqT (h : RO K F H v r) (s : Same F H) (e : oT r = some xs) : ∃ a vs, v = .ref a ∧ SqT K H a vs ∧ SqT K F a vs ∧ RVs K F vs xs := by
  cases r with
  | d x =>
    cases x with
    | tup ys => cases e; obtain ⟨a, vs, e1, e2, e3⟩ := RV.tup_inv h; exact ⟨a, vs, e1, .inl (.inl (s _ _ e2)), .inl (.inl e2), e3⟩
    | kt ys => cases e; obtain ⟨a, vs, e1, e2, e3⟩ := RV.kt_inv h; exact ⟨a, vs, e1, Same.seqT s e2, e2, e3⟩
    | _ => cases e
  | own k => cases e
/-- a list that may be changed or joined: written by the program -/
@[simp] def oM : O → Option (List D)
  | .d (.lst xs) => some xs
  | .own (.lst xs) => some xs
  | _ => none
theorem RO.seqM (h : RO K F H v r) (s : Same F H) (e : oM r = some xs) : ∃ a vs, v = .ref a ∧ H a = some (.lst vs) ∧ RVs K F vs xs := by
  cases r with
  | d x =>
    cases x with
    | lst ys => cases e; obtain ⟨a, vs, e1, e2, e3⟩ := RV.lst_inv h; exact ⟨a, vs, e1, s _ _ e2, e3⟩
    | _ => cases e
  | own k =>
    cases k with
    | lst ys => cases e; obtain ⟨a, e1, f, vs, e2, e3⟩ := h; exact ⟨a, vs, e1, e2, e3⟩
    | dk ys => cases e
    | dt ys => cases e
theorem RO.str {x : Str} (h : RO K F H v (.d (.str x))) : v = .str x := RV.str_inv h
theorem RO.int {x : Int} (h : RO K F H v (.d (.int x))) : v = .int x := RV.int_inv h
theorem RO.bl {x : Bool} (h : RO K F H v (.d (.bl x))) : v = .bl x := RV.bl_inv h
/-- a new list, a new tuple -/
theorem new_list {Q : VK} {ds : List D} {vs : List V} (s : Same F H) (r : RVs K F vs ds) (q : ∀ v' F' H', Grow F H F' H' → RN K H F' H' v' (.own (.lst ds)) → Q v' H') : ∀ p, H p = none → Q (.ref p) (upd H p (.lst vs)) := fun p hp =>
  q _ F _ (Grow.cell s hp) ⟨p, rfl, s.free hp, ⟨vs, upd_same, r⟩, hp⟩
theorem new_tup {Q : VK} {ds : List D} {vs : List V} (s : Same F H) (r : RVs K F vs ds) (q : ∀ v' F' H', Grow F H F' H' → RN K H F' H' v' (.d (.tup ds)) → Q v' H') : ∀ p, H p = none → Q (.ref p) (upd H p (.tup vs)) := fun p hp =>
  q _ (upd F p (.tup vs)) _ (Grow.new s hp) (.tup upd_same (r.mono (same_upd (s.free hp))))
theorem stay {Q : VK} {x : D} {w : V} (s : Same F H) (r : RV K F w x) (q : ∀ v' F' H', Grow F H F' H' → RN K H F' H' v' (.d x) → Q v' H') : Q w H := q w F H (Grow.refl s) r
end

theorem Op2.or {K : PySem.W.Frag} {g h : O → O → Option O} {R R' : R2} (a : Op2 K g R) (b : Op2 K h R') : Op2 K (alt2 g h) (fun x y H Q => R x y H Q ∨ R' x y H Q) := by
  intro F H v w r s t Q sm r1 r2 e q
  unfold alt2 at e
  cases z : g r s with
  | some y => rw [z] at e; cases e; exact .inl (a F H v w r s _ Q sm r1 r2 z q)
  | none => rw [z] at e; exact .inr (b F H v w r s _ Q sm r1 r2 e q)

/-! ### arithmetic -/
abbrev lim : Nat := 16000000
theorem lim_le : lim ≤ sizeLine := by rw [sizeLine_eq]; decide
@[simp] def sAdd : O → O → Option O
  | .d (.str a), .d (.str b) => if a.length + b.length ≤ lim then some (.d (.str (a ++ b))) else none
  | _, _ => none
theorem sAdd_ok {K : PySem.W.Frag} : Op2 K sAdd (fun x y H Q => ∃ i j, x = .str i ∧ y = .str j ∧ i.length + j.length ≤ sizeLine ∧ Q (.str (i ++ j)) H) := by
  intro F H v w r s t Q sm r1 r2 e q
  unfold sAdd at e
  split at e
  · split at e
    · rename_i h
      cases e
      exact ⟨_, _, RO.str r1, RO.str r2, Nat.le_trans h lim_le, q _ F H (Grow.refl sm) (.str _)⟩
    · cases e
  · cases e
@[simp] def tCat : O → O → Option O
  | .d (.tup a), .d (.tup b) => if a.length + b.length ≤ lim then some (.d (.tup (a ++ b))) else none
  | _, _ => none
theorem tCat_ok {K : PySem.W.Frag} : Op2 K tCat (rCatA K) := by
  intro F H v w r s t Q sm r1 r2 e q
  unfold tCat at e
  split at e
  · rename_i xs ys
    split at e
    · rename_i hl
      cases e
      obtain ⟨a, vs, rfl, f1, q1⟩ := RV.tup_inv r1
      obtain ⟨b, ws, rfl, f2, q2⟩ := RV.tup_inv r2
      refine ⟨a, b, vs, ws, rfl, rfl, .inl (.inl (sm _ _ f1)), .inl (.inl (sm _ _ f2)), ?_, fun z => ?_, fun _ z => ?_, fun _ _ => new_tup sm (q1.append q2) q⟩
      · rw [q1.length, q2.length]; exact Nat.le_trans hl lim_le
      · subst z
        have : xs = [] := by cases q1; rfl
        subst this
        exact stay sm (.tup f2 q2) q
      · subst z
        have : ys = [] := by cases q2; rfl
        subst this
        rw [List.append_nil] at q
        exact stay sm (.tup f1 q1) q
    · cases e
  · cases e
@[simp] def lCat (x y : O) : Option O := match oM x, oM y with
  | some a, some b => if a.length + b.length ≤ lim then some (.own (.lst (a ++ b))) else none
  | _, _ => none
theorem lCat_ok {K : PySem.W.Frag} : Op2 K lCat rCat := by
  intro F H v w r s t Q sm r1 r2 e q
  unfold lCat at e
  split at e
  · rename_i xs ys e1 e2
    split at e
    · rename_i hl
      cases e
      obtain ⟨a, vs, rfl, h1, q1⟩ := r1.seqM sm e1
      obtain ⟨b, ws, rfl, h2, q2⟩ := r2.seqM sm e2
      refine ⟨a, b, vs, ws, rfl, rfl, h1, h2, ?_, new_list sm (q1.append q2) q⟩
      rw [q1.length, q2.length]; exact Nat.le_trans hl lim_le
    · cases e
  · cases e
@[simp] def aAdd : O → O → Option O := alt2 (i2 (fun _ _ => true) fun i j => .int (i + j)) (alt2 sAdd (alt2 tCat lCat))
@[simp] def aSub : O → O → Option O := i2 (fun _ _ => true) fun i j => .int (i - j)
def mulOk (i j : Int) : Bool := decide (i.natAbs.log2 + j.natAbs.log2 < 1000000)
def divOk (j : Int) : Bool := decide (j ≠ 0) && decide (j.natAbs.log2 < 9000)
def powOk (i j : Int) : Bool := decide (0 ≤ j) && decide (j ≤ 1000000) && decide (i.natAbs < 2 ^ 64)
@[simp] def lRep (x y : O) : Option O := match oM x, y with
  | some a, .d (.int k) => if decide (a.length * k.toNat ≤ lim) && decide (-1000000 ≤ k) && decide (k ≤ 1000000) then some (.own (.lst (List.replicate k.toNat a).flatten)) else none
  | _, _ => none
@[simp] def tRep (x y : O) : Option O := match oT x, y with
  | some a, .d (.int k) => if decide (a ≠ []) && decide (2 ≤ k) && decide (k ≤ 1000) && decide (a.length ≤ 1000) then some (.d (.tup (List.replicate k.toNat a).flatten)) else none
  | _, _ => none

section
variable {K : PySem.W.Frag} {F : Hp}
theorem RVs.rep {vs : List V} {ds : List D} (r : RVs K F vs ds) : ∀ n, RVs K F (List.replicate n vs).flatten (List.replicate n ds).flatten
  | 0 => .nil
  | n + 1 => by
    rw [List.replicate_succ, List.replicate_succ, List.flatten_cons, List.flatten_cons]
    exact r.append (RVs.rep r n)
end
theorem lRep_ok {K : PySem.W.Frag} : Op2 K lRep rRep := by
  intro F H v w r s t Q sm r1 r2 e q
  unfold lRep at e
  split at e
  · rename_i xs k e1
    split at e
    · rename_i hl
      cases e
      simp only [Bool.and_eq_true, decide_eq_true_eq] at hl
      obtain ⟨a, vs, rfl, h1, q1⟩ := r1.seqM sm e1
      have e2 := RO.int r2
      subst e2
      refine ⟨a, k, vs, rfl, rfl, h1, by omega, by omega, ?_, new_list sm (q1.rep _) q⟩
      rw [q1.length]; exact Nat.le_trans hl.1.1 lim_le
    · cases e
  · cases e
theorem tRep_ok {K : PySem.W.Frag} : Op2 K tRep (rRepT K) := by
  intro F H v w r s t Q sm r1 r2 e q
  unfold tRep at e
  split at e
  · rename_i xs k e1
    split at e
    · rename_i hl
      cases e
      simp only [Bool.and_eq_true, decide_eq_true_eq] at hl
      obtain ⟨a, vs, rfl, h1, f1, q1⟩ := r1.seqT sm e1
      have e2 := RO.int r2
      subst e2
      refine ⟨a, k, vs, rfl, rfl, h1, fun z => ?_, by omega, by omega, ?_, new_tup sm (q1.rep _) q⟩
      · subst z
        cases q1
        exact hl.1.1.1 rfl
      · rw [q1.length]; exact hl.2
    · cases e
  · cases e
def repS (a : Str) (n : Nat) : Str := ⟨(List.replicate n a.cps).foldl (· ++ ·) #[]⟩
@[simp] def sRep : O → O → Option O
  | .d (.str a), .d (.int k) => if decide (2 ≤ k) && decide (k ≤ 1000) && decide (0 < a.length) && decide (a.length ≤ 1000) then some (.d (.str (repS a k.toNat))) else none
  | _, _ => none
def rRepS : R2 := fun x y H Q => ∃ (a : Str) (k : Int), x = .str a ∧ y = .int k ∧ 2 ≤ k ∧ k ≤ 1000 ∧ 0 < a.length ∧ a.length ≤ 1000 ∧ Q (.str (repS a k.toNat)) H
theorem foldl_size (x : Array Nat) : ∀ (n : Nat) (acc : Array Nat), ((List.replicate n x).foldl (· ++ ·) acc).size = acc.size + n * x.size
  | 0, acc => by simp
  | n + 1, acc => by
    rw [List.replicate_succ, List.foldl_cons, foldl_size x n (acc ++ x), Array.size_append, Nat.add_mul]
    omega
theorem op_repS {X : Cx} : OpR X (binaryOp .Mult) rRepS := by
  intro pins s σ H x y v u Q I rx ry h
  obtain ⟨a, k, rfl, rfl, h1, h2, h3, h4, q⟩ := h
  obtain ⟨t, rfl⟩ := rx
  obtain ⟨t', rfl⟩ := ry
  have hz : (k == 1 || a.length == 0) = false := by
    have e1 : (k == 1) = false := by simp; omega
    have e2 : (a.length == 0) = false := by simp; omega
    rw [e1, e2] <;> rfl
  have hm : a.length * k.toNat ≤ 1000 * 1000 := Nat.mul_le_mul h4 (by omega)
  have hs : (1000 : Nat) * 1000 ≤ sizeLine := by decide
  refine P.mul_str ?_ (fun _ _ => ?_) (fun _ _ => ?_) ?_
  · rw [decide_eq_false (by omega), decide_eq_false (by omega)] <;> rfl
  · have : (1000 : Int) ≤ (2 ^ 63 - 1) / k := Int.le_ediv_of_mul_le (by omega) (by omega)
    omega
  · unfold Builtin.Str.tooLong
    exact decide_eq_false (by omega)
  · rw [if_neg (by omega), hz, if_neg (by simp)]
    refine ⟨?_, .str _, H, I.tok _, ⟨_, rfl⟩, q⟩
    show ((List.replicate k.toNat a.cps).foldl (· ++ ·) #[]).size ≤ _
    rw [foldl_size]
    have : a.cps.size = a.length := rfl
    rw [this, Nat.mul_comm]
    show 0 + _ ≤ _
    omega
theorem sRep_ok {K : PySem.W.Frag} : Op2 K sRep rRepS := by
  intro F H v w r s t Q sm r1 r2 e q
  unfold sRep at e
  split at e
  · split at e
    · rename_i hl
      cases e
      simp only [Bool.and_eq_true, decide_eq_true_eq] at hl
      exact ⟨_, _, RO.str r1, RO.int r2, hl.1.1.1, hl.1.1.2, hl.1.2, hl.2, q _ F H (Grow.refl sm) (.str _)⟩
    · cases e
  · cases e
@[simp] def aMul : O → O → Option O := alt2 (i2 mulOk fun i j => .int (i * j)) (alt2 lRep (alt2 tRep sRep))
@[simp] def aDiv : O → O → Option O := i2 (fun _ j => divOk j) fun i j => .int (i.fdiv j)
@[simp] def aMod : O → O → Option O := i2 (fun _ j => decide (j ≠ 0)) fun i j => .int (i.fmod j)
@[simp] def aPow : O → O → Option O := i2 powOk fun i j => .int (i ^ j.toNat)
@[simp] def aNeg : O → Option O
  | .d (.int i) => some (.d (.int (-i)))
  | _ => none
theorem op_fdivW' {X : Cx} : OpR X (binaryOp .FloorDiv) (rI (fun _ j => divOk j = true) fun i j => .int (i.fdiv j)) := opI fun i j _ _ _ _ _ hc q => by
  unfold divOk at hc
  simp only [Bool.and_eq_true, decide_eq_true_eq] at hc
  exact PyProof.Rows.floordiv_int hc.1 q (.inl (PyProof.noPylong_of_log2 hc.2))
theorem op_mulW' {X : Cx} : OpR X (binaryOp .Mult) (rI (fun i j => mulOk i j = true) fun i j => .int (i * j)) := opI fun i j _ _ _ _ _ hc q => by
  unfold mulOk at hc
  have h2 : i.natAbs.log2 + j.natAbs.log2 < 1000000 := of_decide_eq_true hc
  exact PyProof.Rows.mul_int q (CMulW.ok h2)
theorem op_pow' {X : Cx} : OpR X (binaryOp .Pow) (rI (fun i j => powOk i j = true) fun i j => .int (i ^ j.toNat)) := opI fun i j _ _ _ _ _ hc q => by
  unfold powOk at hc
  simp only [Bool.and_eq_true, decide_eq_true_eq] at hc
  exact PyProof.Rows.pow_int_small hc.1.1 hc.1.2 hc.2 q
section
variable {X : Cx} {c : Ct} {a b e : Expr} {f g : Mn A} {pos : Pos}
theorem he_add (hK : c.K = X.K) (ha : PE X a (T c f)) (hb : PE X b (T c g)) : PE X (.BinOp a .Add b pos) (T c (op2 aAdd f g)) :=
  he_op (op_add.or (op_add_str.or (op_catA.or op_cat))) ((i2_rI0 fun i j F => .int _).or (sAdd_ok.or (Op2.or (hK ▸ tCat_ok) lCat_ok))) ha hb
theorem he_sub (ha : PE X a (T c f)) (hb : PE X b (T c g)) : PE X (.BinOp a .Sub b pos) (T c (op2 aSub f g)) := he_op op_sub (i2_rI0 fun i j F => .int _) ha hb
theorem he_mul (hK : c.K = X.K) (ha : PE X a (T c f)) (hb : PE X b (T c g)) : PE X (.BinOp a .Mult b pos) (T c (op2 aMul f g)) :=
  he_op (op_mulW'.or (op_rep.or (op_repT.or op_repS))) ((i2_rI (fun _ _ h => h) fun i j F => .int _).or (Op2.or lRep_ok (Op2.or (hK ▸ tRep_ok) sRep_ok))) ha hb
theorem he_div (ha : PE X a (T c f)) (hb : PE X b (T c g)) : PE X (.BinOp a .FloorDiv b pos) (T c (op2 aDiv f g)) := he_op op_fdivW' (i2_rI (fun _ _ h => h) fun i j F => .int _) ha hb
theorem he_mod (ha : PE X a (T c f)) (hb : PE X b (T c g)) : PE X (.BinOp a .Mod b pos) (T c (op2 aMod f g)) := he_op op_modN (i2_rI (fun _ _ h => of_decide_eq_true h) fun i j F => .int _) ha hb
theorem he_pow (ha : PE X a (T c f)) (hb : PE X b (T c g)) : PE X (.BinOp a .Pow b pos) (T c (op2 aPow f g)) := he_op op_pow' (i2_rI (fun _ _ h => h) fun i j F => .int _) ha hb
theorem aNeg_ok {K : PySem.W.Frag} : Op1 K aNeg (rU fun i => .int (-i)) := by
  intro F H v r s Q sm r1 e q
  unfold aNeg at e
  split at e
  · cases e
    exact ⟨_, RO.int r1, q _ F H (Grow.refl sm) (.int _)⟩
  · cases e
theorem he_neg (ha : PE X a (T c f)) : PE X (.UnaryOp .USub a pos) (T c (op1 aNeg f)) := he_un un_neg aNeg_ok ha
end

/-! ### comparisons -/
@[simp] def s2 (k : Str → Str → Bool) : O → O → Option O
  | .d (.str a), .d (.str b) => some (.d (.bl (k a b)))
  | _, _ => none
theorem s2_ok {K : PySem.W.Frag} {k : Str → Str → Bool} : Op2 K (s2 k) (fun x y H Q => ∃ i j, x = .str i ∧ y = .str j ∧ Q (.bl (k i j)) H) := by
  intro F H v w r s t Q sm r1 r2 e q
  unfold s2 at e
  split at e
  · cases e
    exact ⟨_, _, RO.str r1, RO.str r2, q _ F H (Grow.refl sm) (.bl _)⟩
  · cases e
@[simp] def cLt : O → O → Option O := alt2 (i2 (fun _ _ => true) fun i j => .bl (decide (i < j))) (s2 fun i j => decide (i.cps.toList < j.cps.toList))
@[simp] def cLe : O → O → Option O := alt2 (i2 (fun _ _ => true) fun i j => .bl (decide (i ≤ j))) (s2 fun i j => !decide (j.cps.toList < i.cps.toList))
@[simp] def cGt : O → O → Option O := alt2 (i2 (fun _ _ => true) fun i j => .bl (decide (j < i))) (s2 fun i j => decide (j.cps.toList < i.cps.toList))
@[simp] def cGe : O → O → Option O := alt2 (i2 (fun _ _ => true) fun i j => .bl (decide (j ≤ i))) (s2 fun i j => !decide (i.cps.toList < j.cps.toList))
/-! == : scalars first, then data of any depth -/
@[simp] def qSc : O → O → Option Bool
  | .d (.int i), .d (.int j) => some (decide (i = j))
  | .d (.str i), .d (.str j) => some (decide (i = j))
  | .d (.bl i), .d (.bl j) => some (decide (i = j))
  | _, _ => none
mutual
def toPy : D → Option PyData
  | .non => some .none
  | .bl b => some (.bool b)
  | .int i => some (.int i)
  | .str x => some (.str x)
  | .tup xs => (toPys xs).map .tuple
  | .kt xs => (toPys xs).map .tuple
  | .lst xs => (toPys xs).map .list
  | .lk xs => (toPys xs).map .list
  | .dk _ => none
  | .dt _ => none
  | .ty _ => none
def toPys : List D → Option (List PyData)
  | [] => some []
  | x :: xs => (toPy x).bind fun y => (toPys xs).map (y :: ·)
end
section
variable {K : PySem.W.Frag} {F H : Hp}
mutual
theorem toPy_dp (s : Same F H) : ∀ {x : D} {p : PyData} {v : V}, toPy x = some p → RV K F v x → Dp K H v p
  | .non, _, _, e, r => by cases e; cases r; exact .non
  | .bl b, _, _, e, r => by cases e; cases r; exact .bl b
  | .int i, _, _, e, r => by cases e; cases r; exact .int i
  | .str z, _, _, e, r => by cases e; cases r; exact .str z
  | .tup xs, _, _, e, r => by
    unfold toPy at e
    obtain ⟨ps, e1, rfl⟩ := Option.map_eq_some_iff.mp e
    cases r with
    | tup h rs => exact .tup (.inl (.inl (s _ _ h))) (toPys_dp s e1 rs)
  | .kt xs, _, _, e, r => by
    unfold toPy at e
    obtain ⟨ps, e1, rfl⟩ := Option.map_eq_some_iff.mp e
    cases r with
    | kt h rs => exact .tup (Same.seqT s h) (toPys_dp s e1 rs)
  | .lst xs, _, _, e, r => by
    unfold toPy at e
    obtain ⟨ps, e1, rfl⟩ := Option.map_eq_some_iff.mp e
    cases r with
    | lst h rs => exact .lst (.inl (.inl (s _ _ h))) (toPys_dp s e1 rs)
  | .lk xs, _, _, e, r => by
    unfold toPy at e
    obtain ⟨ps, e1, rfl⟩ := Option.map_eq_some_iff.mp e
    cases r with
    | lk h rs => exact .lst (s.seq h) (toPys_dp s e1 rs)
  | .dk _, _, _, e, _ => by unfold toPy at e; cases e
  | .dt _, _, _, e, _ => by unfold toPy at e; cases e
  | .ty _, _, _, e, _ => by unfold toPy at e; cases e
theorem toPys_dp (s : Same F H) : ∀ {xs : List D} {ps : List PyData} {vs : List V}, toPys xs = some ps → RVs K F vs xs → DpAll K H vs ps
  | [], _, _, e, r => by unfold toPys at e; cases e; cases r; exact .nil
  | x :: xs, _, _, e, r => by
    unfold toPys at e
    obtain ⟨y, e1, e2⟩ := Option.bind_eq_some_iff.mp e
    obtain ⟨ys, e3, rfl⟩ := Option.map_eq_some_iff.mp e2
    cases r with
    | cons h rs => exact .cons (toPy_dp s e1 h) (toPys_dp s e3 rs)
end
end
@[simp] def oPy : O → Option PyData
  | .d x => toPy x
  | .own (.lst xs) => (toPys xs).map .list
  | .own _ => none
theorem oPy_dp {K : PySem.W.Frag} {F H : Hp} {r : O} {p : PyData} {v : V} (s : Same F H) (e : oPy r = some p) (h : RO K F H v r) : Dp K H v p := by
  cases r with
  | d x => exact toPy_dp s e h
  | own k =>
    cases k with
    | lst xs =>
      obtain ⟨ps, e1, rfl⟩ := Option.map_eq_some_iff.mp e
      obtain ⟨a, rfl, _, vs, e2, rs⟩ := h
      exact .lst (.inl (.inl e2)) (toPys_dp s e1 rs)
    | dk xs => cases e
    | dt xs => cases e
/-- == as data -/
@[simp] def qDp (x y : O) : Option Bool := match oPy x, oPy y with
  | some p, some q => if SeqAt.shaped p && SeqAt.shaped q then some (PyData.eqv p q) else none
  | _, _ => none
@[simp] def qEq (x y : O) : Option Bool := match qSc x y with
  | some b => some b
  | none => qDp x y
theorem qDp_ok {K : PySem.W.Frag} {F H : Hp} {v w : V} {r s : O} {k : Bool} {Q : VK} (sm : Same F H) (r1 : RO K F H v r) (r2 : RO K F H w s) (e : qDp r s = some k) : ∃ d e, Dp K H v d ∧ Dp K H w e ∧ SeqAt.shaped d = true ∧ SeqAt.shaped e = true ∧ PyData.eqv d e = k := by
  unfold qDp at e
  split at e
  · rename_i p q e1 e2
    split at e
    · rename_i hs
      cases e
      rw [Bool.and_eq_true] at hs
      exact ⟨p, q, oPy_dp sm e1 r1, oPy_dp sm e2 r2, hs.1, hs.2, rfl⟩
    · cases e
  · cases e
theorem qSc_ok {K : PySem.W.Frag} {F H : Hp} {v w : V} {r s : O} {k : Bool} (r1 : RO K F H v r) (r2 : RO K F H w s) (e : qSc r s = some k) : scal v w = true ∧ decide (v = w) = k := by
  unfold qSc at e
  split at e
  · cases e
    rw [RO.int r1, RO.int r2]
    exact ⟨rfl, by rw [dec_int, Bool.beq_eq_decide_eq]⟩
  · cases e
    rw [RO.str r1, RO.str r2]
    refine ⟨rfl, ?_⟩
    rename_i x y
    by_cases h : x = y
    · rw [h]; simp
    · rw [decide_eq_false h, decide_eq_false fun z => h (by injection z)]
  · cases e
    rw [RO.bl r1, RO.bl r2]
    refine ⟨rfl, ?_⟩
    rename_i x y
    by_cases h : x = y
    · rw [h]; simp
    · rw [decide_eq_false h, decide_eq_false fun z => h (by injection z)]
  · cases e
@[simp] def cEq (x y : O) : Option O := (qEq x y).map fun b => .d (.bl b)
@[simp] def cNe (x y : O) : Option O := (qEq x y).map fun b => .d (.bl (!b))
theorem cEq_ok {K : PySem.W.Frag} : Op2 K cEq (fun x y H Q => rEq x y H Q ∨ rEqD K x y H Q) := by
  intro F H v w r s t Q sm r1 r2 e q
  obtain ⟨k, e1, rfl⟩ := Option.map_eq_some_iff.mp e
  unfold qEq at e1
  split at e1
  · rename_i b hb
    cases e1
    obtain ⟨h1, h2⟩ := qSc_ok r1 r2 hb
    exact .inl ⟨h1, by rw [h2]; exact q _ F H (Grow.refl sm) (.bl _)⟩
  · obtain ⟨d, e, h1, h2, h3, h4, h5⟩ := qDp_ok (Q := Q) sm r1 r2 e1
    exact .inr ⟨d, e, h1, h2, h3, h4, by rw [h5]; exact q _ F H (Grow.refl sm) (.bl _)⟩
theorem cNe_ok {K : PySem.W.Frag} : Op2 K cNe (fun x y H Q => rNe x y H Q ∨ rNeD K x y H Q) := by
  intro F H v w r s t Q sm r1 r2 e q
  obtain ⟨k, e1, rfl⟩ := Option.map_eq_some_iff.mp e
  unfold qEq at e1
  split at e1
  · rename_i b hb
    cases e1
    obtain ⟨h1, h2⟩ := qSc_ok r1 r2 hb
    exact .inl ⟨h1, by rw [h2]; exact q _ F H (Grow.refl sm) (.bl _)⟩
  · obtain ⟨d, e, h1, h2, h3, h4, h5⟩ := qDp_ok (Q := Q) sm r1 r2 e1
    exact .inr ⟨d, e, h1, h2, h3, h4, by rw [h5]; exact q _ F H (Grow.refl sm) (.bl _)⟩
section
variable {X : Cx} {c : Ct} {a b e : Expr} {f g : Mn A} {pos : Pos}
theorem he_lt (ha : PE X a (T c f)) (hb : PE X b (T c g)) : PE X (.Compare a [.Lt] [b] pos) (T c (op2 cLt f g)) := he_cmp (op_lt.or op_lt_str) ((i2_rI0 fun i j F => .bl _).or s2_ok) ha hb (nomark _)
theorem he_le (ha : PE X a (T c f)) (hb : PE X b (T c g)) : PE X (.Compare a [.LtE] [b] pos) (T c (op2 cLe f g)) := he_cmp (op_le.or op_le_str) ((i2_rI0 fun i j F => .bl _).or s2_ok) ha hb (nomark _)
theorem he_gt (ha : PE X a (T c f)) (hb : PE X b (T c g)) : PE X (.Compare a [.Gt] [b] pos) (T c (op2 cGt f g)) := he_cmp (op_gt.or op_gt_str) ((i2_rI0 fun i j F => .bl _).or s2_ok) ha hb (nomark _)
theorem he_ge (ha : PE X a (T c f)) (hb : PE X b (T c g)) : PE X (.Compare a [.GtE] [b] pos) (T c (op2 cGe f g)) := he_cmp (op_ge.or op_ge_str) ((i2_rI0 fun i j F => .bl _).or s2_ok) ha hb (nomark _)
theorem he_eq (hK : c.K = X.K) (hu : X.A.units + 64 < cLine) (ha : PE X a (T c f)) (hb : PE X b (T c g)) : PE X (.Compare a [.Eq] [b] pos) (T c (op2 cEq f g)) := he_cmp (op_eq.or (op_eqD hu)) (hK ▸ cEq_ok) ha hb (nomark _)
theorem he_ne (hK : c.K = X.K) (hu : X.A.units + 64 < cLine) (ha : PE X a (T c f)) (hb : PE X b (T c g)) : PE X (.Compare a [.NotEq] [b] pos) (T c (op2 cNe f g)) := he_cmp (op_ne.or (op_neD hu)) (hK ▸ cNe_ok) ha hb (nomark _)
end
end FR

namespace FR
open PySem PySem.Spec L2

/-! ### truth, tests -/
@[simp] def tru : O → Option Bool
  | .d .non => some false
  | .d (.bl b) => some b
  | .d (.int i) => some (i != 0)
  | .d (.str y) => if y.length ≤ lim then some ((y.length : Int) != 0) else none
  | .d (.tup xs) => some (!xs.isEmpty)
  | .d (.kt xs) => some (!xs.isEmpty)
  | .d (.lst xs) => some (!xs.isEmpty)
  | .d (.lk xs) => some (!xs.isEmpty)
  | .own (.lst xs) => some (!xs.isEmpty)
  | .own (.dk xs) => some (!xs.isEmpty)
  | _ => none
theorem RVs.empty {K : PySem.W.Frag} {F : Hp} {vs : List V} {ds : List D} (r : RVs K F vs ds) : vs.isEmpty = ds.isEmpty := by cases r <;> rfl
theorem RKs.empty {K : PySem.W.Frag} {F : Hp} {vs : List (Key × V)} {ds : List (Key × D)} (r : RKs K F vs ds) : vs.isEmpty = ds.isEmpty := by cases r <;> rfl
theorem tru_ok {K : PySem.W.Frag} {F H : Hp} {v : V} {r : O} {b : Bool} (s : Same F H) (h : RO K F H v r) (e : tru r = some b) : TruV K v H b := by
  cases r with
  | d x =>
    cases x with
    | non => cases h; cases e; rfl
    | bl c => cases h; cases e; rfl
    | int i => cases h; cases e; rfl
    | str y =>
      cases h
      simp only [tru] at e
      split at e
      · rename_i hl; cases e; exact ⟨Nat.le_trans hl lim_le, rfl⟩
      · cases e
    | tup xs => cases e; obtain ⟨a, vs, rfl, h1, h2⟩ := RV.tup_inv h; exact .inr (.inl ⟨vs, .inl (.inl (s _ _ h1)), by rw [h2.empty]⟩)
    | kt xs => cases e; obtain ⟨a, vs, rfl, h1, h2⟩ := RV.kt_inv h; exact .inr (.inl ⟨vs, Same.seqT s h1, by rw [h2.empty]⟩)
    | lst xs => cases e; obtain ⟨a, vs, rfl, h1, h2⟩ := RV.lst_inv h; exact .inl ⟨vs, .inl (.inl (s _ _ h1)), by rw [h2.empty]⟩
    | lk xs => cases e; obtain ⟨a, vs, rfl, h1, h2⟩ := RV.lk_inv h; exact .inl ⟨vs, s.seq h1, by rw [h2.empty]⟩
    | dk xs => cases e
    | dt xs => cases e
    | ty n => cases e
  | own k =>
    cases k with
    | lst xs => cases e; obtain ⟨a, rfl, _, vs, h1, h2⟩ := h; exact .inl ⟨vs, .inl (.inl h1), by rw [h2.empty]⟩
    | dk xs => cases e; obtain ⟨a, rfl, _, vs, h1, h2⟩ := h; exact .inr (.inr ⟨vs, h1, by rw [h2.empty]⟩)
    | dt xs => cases e
@[simp] def liftB (r : Option Bool) : Mn Bool := fun S => match r with
  | some b => .ok b S
  | none => .bad
@[simp] def tst (f : Mn A) : Mn Bool := bnd f fun a S => liftB ((view a S).bind tru) S
@[simp] def isB : O → Option Bool
  | .d (.bl b) => some b
  | _ => none
@[simp] def tsb (f : Mn A) : Mn Bool := bnd f fun a S => liftB ((view a S).bind isB) S
theorem gat_liftB {c : Ct} {σ : St} {F0 H0 F H : Hp} {S0 S : Sl} {Q : Bool → Hp → Prop} {r : Option Bool} (s : Step c.K c.fx σ F0 H0 S0 σ F H S) (h : Gat c (fun _ _ _ _ _ (w : Bool) (b : Bool) => w = b) σ F0 H0 S0 Q (liftB r S)) :
    ∃ b, r = some b ∧ Q b H := by
  cases r with
  | none => exact h.elim
  | some b => exact ⟨b, rfl, h b F H s rfl⟩
section
variable {X : Cx} {c : Ct} {a b e : Expr} {f g : Mn A} {p q : Mn Bool} {pos : Pos} {rest : List Expr}
/-- an expression whose value is a truth value, as a test -/
theorem t_tsb (σ : St) (H : Hp) (Q : Bool → Hp → Prop) (h : TB c (tsb f) σ H Q) : T c f σ H (fun x H1 => ∃ k, x = .bl k ∧ Q k H1) := by
  obtain ⟨F0, S0, R0, h⟩ := h
  refine G.imp (Gat.bind (Step.refl R0) h) fun v H1 ⟨a, F1, S1, s1, _, ra, g1⟩ => ?_
  obtain ⟨b, e, qb⟩ := gat_liftB s1 g1
  obtain ⟨x, ex, e⟩ := Option.bind_eq_some_iff.mp e
  have ro := ra.ro s1.rel ex
  cases x with
  | own k => cases e
  | d y =>
    cases y with
    | bl k => cases e; exact ⟨_, RO.bl ro, qb⟩
    | _ => cases e
theorem t_tst (hK : c.K = X.K) (σ : St) (H : Hp) (Q : Bool → Hp → Prop) (h : TB c (tst f) σ H Q) : T c f σ H (fun x H1 => ∃ k, TruV X.K x H1 k ∧ Q k H1) := by
  obtain ⟨F0, S0, R0, h⟩ := h
  refine G.imp (Gat.bind (Step.refl R0) h) fun v H1 ⟨a, F1, S1, s1, _, ra, g1⟩ => ?_
  obtain ⟨b, e, qb⟩ := gat_liftB s1 g1
  obtain ⟨x, ex, e⟩ := Option.bind_eq_some_iff.mp e
  exact ⟨b, hK ▸ tru_ok s1.rel.sub (ra.ro s1.rel ex) e, qb⟩
theorem ht_tru (hK : c.K = X.K) (ha : PE X a (T c f)) (he : ∀ whole, isTrue a X.env whole = (do let v ← whole; standAt a.pos; holding [v] (truthy v)) := by intro _; rfl) : PT X a (TB c (tst f)) := PT.mono (pt_truth ha he) (t_tst hK)
/-- a comparison as a test -/
theorem ht_op {op : CmpOp} {R : R2} {k : O → O → Option O} (ho : OpR X (compareOp op) R) (hk : Op2 c.K k R) (ha : PE X a (T c f)) (hb : PE X b (T c g)) (hm : behindInMarks op b = false) : PT X (.Compare a [op] [b] pos) (TB c (tsb (op2 k f g))) :=
  PT.mono (pt_cmpR ho ha hb hm) fun σ H Q h => T_op2 hk σ H _ (t_tsb σ H Q h)
theorem ht_lt (ha : PE X a (T c f)) (hb : PE X b (T c g)) : PT X (.Compare a [.Lt] [b] pos) (TB c (tsb (op2 cLt f g))) := ht_op (op_lt.or op_lt_str) ((i2_rI0 fun i j F => .bl _).or s2_ok) ha hb (nomark _)
theorem ht_le (ha : PE X a (T c f)) (hb : PE X b (T c g)) : PT X (.Compare a [.LtE] [b] pos) (TB c (tsb (op2 cLe f g))) := ht_op (op_le.or op_le_str) ((i2_rI0 fun i j F => .bl _).or s2_ok) ha hb (nomark _)
theorem ht_gt (ha : PE X a (T c f)) (hb : PE X b (T c g)) : PT X (.Compare a [.Gt] [b] pos) (TB c (tsb (op2 cGt f g))) := ht_op (op_gt.or op_gt_str) ((i2_rI0 fun i j F => .bl _).or s2_ok) ha hb (nomark _)
theorem ht_ge (ha : PE X a (T c f)) (hb : PE X b (T c g)) : PT X (.Compare a [.GtE] [b] pos) (TB c (tsb (op2 cGe f g))) := ht_op (op_ge.or op_ge_str) ((i2_rI0 fun i j F => .bl _).or s2_ok) ha hb (nomark _)
theorem ht_eq (hK : c.K = X.K) (hu : X.A.units + 64 < cLine) (ha : PE X a (T c f)) (hb : PE X b (T c g)) : PT X (.Compare a [.Eq] [b] pos) (TB c (tsb (op2 cEq f g))) := ht_op (op_eq.or (op_eqD hu)) (hK ▸ cEq_ok) ha hb (nomark _)
theorem ht_ne (hK : c.K = X.K) (hu : X.A.units + 64 < cLine) (ha : PE X a (T c f)) (hb : PE X b (T c g)) : PT X (.Compare a [.NotEq] [b] pos) (TB c (tsb (op2 cNe f g))) := ht_op (op_ne.or (op_neD hu)) (hK ▸ cNe_ok) ha hb (nomark _)
/-! and, or, not as tests -/
@[simp] def andB (f g : Mn Bool) : Mn Bool := bnd f fun b => match b with
  | true => g
  | false => ret false
@[simp] def orB (f g : Mn Bool) : Mn Bool := bnd f fun b => match b with
  | true => ret true
  | false => g
@[simp] def notB (f : Mn Bool) : Mn Bool := bnd f fun b => ret (!b)
/-- from the state behind a part -/
theorem G.at {α β : Type} {RR : RRel α β} {f : Mn α} {σ : St} {F0 H0 F H : Hp} {S0 S : Sl} {Q : β → Hp → Prop} (s : Step c.K c.fx σ F0 H0 S0 σ F H S) (m : ∀ {H1 σ' F' H' S' v a}, RR H1 σ' F' H' S' v a → Step c.K c.fx σ F0 H0 S0 σ F H S → H1 = H → RR H0 σ' F' H' S' v a) (h : Gat c RR σ F0 H0 S0 Q (f S)) : G c RR f σ H Q := by
  refine ⟨F, S, s.rel, ?_⟩
  cases e : f S with
  | bad => rw [e] at h; exact h
  | exc x S' => rw [e] at h; exact fun F' H' cv dx st rx => h F' H' cv dx (s.trans st) rx
  | ok a S' => rw [e] at h; exact fun v F' H' st ra => h v F' H' (s.trans st) (m ra s rfl)
theorem T.at {f : Mn A} {σ : St} {F0 H0 F H : Hp} {S0 S : Sl} {Q : VK} (s : Step c.K c.fx σ F0 H0 S0 σ F H S) (h : Gat c (RA c.K) σ F0 H0 S0 Q (f S)) : T c f σ H Q := G.at s (fun ra st e => by subst e; exact ra.older st) h
theorem TB.at {f : Mn Bool} {σ : St} {F0 H0 F H : Hp} {S0 S : Sl} {Q : Bool → Hp → Prop} (s : Step c.K c.fx σ F0 H0 S0 σ F H S) (h : Gat c (fun _ _ _ _ _ (w : Bool) (b : Bool) => w = b) σ F0 H0 S0 Q (f S)) : TB c f σ H Q := G.at s (fun ra _ _ => ra) h
theorem ht_and1 (ha : PT X a (TB c p)) : PW X (.BoolOp .And [a] pos) (TB c p) := pw_and1 ha
theorem ht_or1 (ha : PT X a (TB c p)) : PW X (.BoolOp .Or [a] pos) (TB c p) := pw_or1 ha
theorem t_andB (σ : St) (H : Hp) (Q : Bool → Hp → Prop) (h : TB c (andB p q) σ H Q) : tAnd (TB c p) (TB c q) σ H Q := by
  obtain ⟨F0, S0, R0, h⟩ := h
  refine G.imp (Gat.bind (Step.refl R0) h) fun v H1 ⟨a, F1, S1, s1, _, ra, g1⟩ => ?_
  cases ra
  cases v with
  | true => exact iteT (TB.at s1 g1)
  | false => exact iteF (g1 false F1 H1 s1 rfl)
theorem t_orB (σ : St) (H : Hp) (Q : Bool → Hp → Prop) (h : TB c (orB p q) σ H Q) : tOr (TB c p) (TB c q) σ H Q := by
  obtain ⟨F0, S0, R0, h⟩ := h
  refine G.imp (Gat.bind (Step.refl R0) h) fun v H1 ⟨a, F1, S1, s1, _, ra, g1⟩ => ?_
  cases ra
  cases v with
  | true => exact iteT (g1 true F1 H1 s1 rfl)
  | false => exact iteF (TB.at s1 g1)
theorem ht_and (ha : PT X a (TB c p)) (hb : PW X (.BoolOp .And (b :: rest) pos) (TB c q)) : PW X (.BoolOp .And (a :: b :: rest) pos) (TB c (andB p q)) := PW.mono (pw_and ha hb) t_andB
theorem ht_or (ha : PT X a (TB c p)) (hb : PW X (.BoolOp .Or (b :: rest) pos) (TB c q)) : PW X (.BoolOp .Or (a :: b :: rest) pos) (TB c (orB p q)) := PW.mono (pw_or ha hb) t_orB
theorem ht_not (ha : PT X a (TB c p)) : PT X (.UnaryOp .Not a pos) (TB c (notB p)) := PT.mono (pt_not ha) fun σ H Q h => by
  obtain ⟨F0, S0, R0, h⟩ := h
  refine G.imp (Gat.bind (Step.refl R0) h) fun v H1 ⟨a, F1, S1, s1, _, ra, g1⟩ => ?_
  cases ra
  exact g1 (!v) F1 H1 s1 rfl
/-! and, or, not as values (all but the last of and, or truth values) -/
@[simp] def ifT (r : Option Bool) (f g : Mn A) : Mn A := fun S => match r with
  | some true => f S
  | some false => g S
  | none => .bad
@[simp] def andV (f g : Mn A) : Mn A := bnd f fun a S => ifT ((view a S).bind isB) g (kd (.bl false)) S
@[simp] def orV (f g : Mn A) : Mn A := bnd f fun a S => ifT ((view a S).bind isB) (kd (.bl true)) g S
@[simp] def notV : O → Option O
  | .d (.bl b) => some (.d (.bl (!b)))
  | _ => none
theorem isB_some {K : PySem.W.Frag} {F H : Hp} {v : V} {r : O} {b : Bool} (h : RO K F H v r) (e : isB r = some b) : v = .bl b := by
  cases r with
  | own k => cases e
  | d y =>
    cases y with
    | bl k => cases e; exact RO.bl h
    | _ => cases e
theorem t_andV (σ : St) (H : Hp) (Q : VK) (h : T c (andV f g) σ H Q) : tAndV (T c f) (T c g) σ H Q := by
  obtain ⟨F0, S0, R0, h⟩ := h
  refine G.imp (Gat.bind (Step.refl R0) h) fun v H1 ⟨a, F1, S1, s1, _, ra, g1⟩ => ?_
  cases e : (view a S1).bind isB with
  | none => rw [e] at g1; exact g1.elim
  | some b =>
    rw [e] at g1
    obtain ⟨x, ex, e⟩ := Option.bind_eq_some_iff.mp e
    refine ⟨b, isB_some (ra.ro s1.rel ex) e, ?_⟩
    cases b with
    | true => exact iteT (T.at s1 g1)
    | false => exact iteF (g1 (.bl false) F1 H1 s1 (.bl false))
theorem t_orV (σ : St) (H : Hp) (Q : VK) (h : T c (orV f g) σ H Q) : tOrV (T c f) (T c g) σ H Q := by
  obtain ⟨F0, S0, R0, h⟩ := h
  refine G.imp (Gat.bind (Step.refl R0) h) fun v H1 ⟨a, F1, S1, s1, _, ra, g1⟩ => ?_
  cases e : (view a S1).bind isB with
  | none => rw [e] at g1; exact g1.elim
  | some b =>
    rw [e] at g1
    obtain ⟨x, ex, e⟩ := Option.bind_eq_some_iff.mp e
    refine ⟨b, isB_some (ra.ro s1.rel ex) e, ?_⟩
    cases b with
    | true => exact iteT (g1 (.bl true) F1 H1 s1 (.bl true))
    | false => exact iteF (T.at s1 g1)
theorem he_and (ha : PE X a (T c f)) (hb : PE X (.BoolOp .And (b :: rest) pos) (T c g)) : PE X (.BoolOp .And (a :: b :: rest) pos) (T c (andV f g)) := PE.mono (pe_and ha hb) t_andV
theorem he_or (ha : PE X a (T c f)) (hb : PE X (.BoolOp .Or (b :: rest) pos) (T c g)) : PE X (.BoolOp .Or (a :: b :: rest) pos) (T c (orV f g)) := PE.mono (pe_or ha hb) t_orV
theorem he_one {op} (ha : PE X a (T c f)) : PE X (.BoolOp op [a] pos) (T c f) := pe_one ha
theorem he_not (ha : PE X a (T c f)) : PE X (.UnaryOp .Not a pos) (T c (op1 notV f)) := PE.mono (pe_not ha) fun σ H Q h => by
  refine T_op1 (R := fun x H1 Q => ∃ k, x = .bl k ∧ Q (.bl (!k)) H1) (fun F H v r s Q sm r1 e q => ?_) σ H Q h
  unfold notV at e
  split at e
  · cases e; exact ⟨_, RO.bl r1, q _ F H (Grow.refl sm) (.bl _)⟩
  · cases e
@[simp] def ifE (p : Mn Bool) (f g : Mn A) : Mn A := bnd p fun b => match b with
  | true => f
  | false => g
theorem he_if {t : Expr} (hc : PT X t (TB c p)) (ha : PE X a (T c f)) (hb : PE X b (T c g)) : PE X (.IfExp t a b pos) (T c (ifE p f g)) := PE.mono (pe_ifExp hc ha hb) fun σ H Q h => by
  obtain ⟨F0, S0, R0, h⟩ := h
  refine G.imp (Gat.bind (RR := fun _ _ _ _ _ (w : Bool) (b : Bool) => w = b) (Step.refl R0) h) fun v H1 ⟨a, F1, S1, s1, _, ra, g1⟩ => ?_
  cases ra
  cases v with
  | true => exact iteT (T.at s1 g1)
  | false => exact iteF (T.at s1 g1)
end
end FR

namespace FR
open PySem PySem.Spec L2

/-! ### is -/
@[simp] def isN : O → O → Option O
  | .d x, .d .non => some (.d (.bl (match x with | .non => true | _ => false)))
  | .own _, .d .non => some (.d (.bl false))
  | _, _ => none
@[simp] def isntN : O → O → Option O
  | .d x, .d .non => some (.d (.bl (match x with | .non => false | _ => true)))
  | .own _, .d .non => some (.d (.bl true))
  | _, _ => none
def kBl : O → Bool → Bool
  | .d (.bl a), b => decide (a = b)
  | _, _ => false
@[simp] def isBB : O → O → Option O
  | x, .d (.bl b) => some (.d (.bl (kBl x b)))
  | _, _ => none
@[simp] def isntBB : O → O → Option O
  | x, .d (.bl b) => some (.d (.bl (!kBl x b)))
  | _, _ => none
def rIsB' : R2 := fun x y H Q => ∃ b : Bool, y = .bl b ∧ Q (.bl (decide (x = .bl b))) H
def rNotB' : R2 := fun x y H Q => ∃ b : Bool, y = .bl b ∧ Q (.bl (!decide (x = .bl b))) H
theorem relBl {x : V} {v : Value} {b : Bool} (rx : RelV x v) : plainIs v (.bool b) = true ∧ (x = .bl b ↔ v = .bool b) := by
  cases x with
  | non => cases (show v = _ from rx); exact ⟨rfl, by constructor <;> intro h <;> cases h⟩
  | bl a => cases (show v = _ from rx); exact ⟨rfl, by constructor <;> intro h <;> cases h <;> rfl⟩
  | int i => obtain ⟨t, rfl⟩ := (show ∃ t, v = _ from rx); exact ⟨rfl, by constructor <;> intro h <;> cases h⟩
  | str i => obtain ⟨t, rfl⟩ := (show ∃ t, v = _ from rx); exact ⟨rfl, by constructor <;> intro h <;> cases h⟩
  | byt i => obtain ⟨t, rfl⟩ := (show ∃ t, v = _ from rx); exact ⟨rfl, by constructor <;> intro h <;> cases h⟩
  | flt i => obtain ⟨t, rfl⟩ := (show ∃ t, v = _ from rx); exact ⟨rfl, by constructor <;> intro h <;> cases h⟩
  | ref a => cases (show v = _ from rx); exact ⟨rfl, by constructor <;> intro h <;> cases h⟩
  | ty n => cases (show v = _ from rx); exact ⟨rfl, by constructor <;> intro h <;> cases h⟩
theorem op_isBl' {X : Cx} : OpR X (compareOp .Is) rIsB' := by
  intro pins s σ H x y v u Q I rx ry h
  obtain ⟨b, rfl, q⟩ := h
  cases (show u = Value.bool b from ry)
  obtain ⟨h1, h2⟩ := relBl (b := b) rx
  by_cases e : v = .bool b
  · have z := h2.mpr e
    subst z
    subst e
    exact wpAny_is_self rfl ⟨.bl true, H, I, rfl, by simpa using q⟩
  · have z : ¬ x = .bl b := fun z => e (h2.mp z)
    exact wpAny_is_other h1 e ⟨.bl false, H, I, rfl, by simpa [z] using q⟩
theorem op_notBl' {X : Cx} : OpR X (compareOp .IsNot) rNotB' := by
  intro pins s σ H x y v u Q I rx ry h
  obtain ⟨b, rfl, q⟩ := h
  cases (show u = Value.bool b from ry)
  obtain ⟨h1, h2⟩ := relBl (b := b) rx
  by_cases e : v = .bool b
  · have z := h2.mpr e
    subst z
    subst e
    exact wpAny_isNot_self rfl ⟨.bl false, H, I, rfl, by simpa using q⟩
  · have z : ¬ x = .bl b := fun z => e (h2.mp z)
    exact wpAny_isNot_other h1 e ⟨.bl true, H, I, rfl, by simpa [z] using q⟩
theorem dec_bl {K : PySem.W.Frag} {F H : Hp} {v : V} {r : O} {b : Bool} (h : RO K F H v r) : decide (v = .bl b) = kBl r b := by
  cases r with
  | d x => cases h <;> first | rfl | (unfold kBl; simp)
  | own k => obtain ⟨a, rfl, _⟩ := h; rfl
theorem dec_non {K : PySem.W.Frag} {F H : Hp} {v : V} {r : O} (h : RO K F H v r) : decide (v = .non) = (match r with | .d .non => true | _ => false) := by
  cases r with
  | d x => cases h <;> rfl
  | own k => obtain ⟨a, rfl, _⟩ := h; rfl
theorem isN_ok {K : PySem.W.Frag} : Op2 K isN (fun x y H Q => y = .non ∧ Q (.bl (decide (x = .non))) H) := by
  intro F H v w r s t Q sm r1 r2 e q
  have dn := dec_non r1
  cases s with
  | own k => cases r <;> cases e
  | d y =>
    cases y with
    | non =>
      refine ⟨RV.non_inv r2, ?_⟩
      rw [dn]
      cases r with
      | own k => cases e; exact q _ F H (Grow.refl sm) (.bl _)
      | d x => cases e; cases x <;> exact q _ F H (Grow.refl sm) (.bl _)
    | _ => cases r <;> cases e
theorem isntN_ok {K : PySem.W.Frag} : Op2 K isntN (fun x y H Q => y = .non ∧ Q (.bl (!decide (x = .non))) H) := by
  intro F H v w r s t Q sm r1 r2 e q
  have dn := dec_non r1
  cases s with
  | own k => cases r <;> cases e
  | d y =>
    cases y with
    | non =>
      refine ⟨RV.non_inv r2, ?_⟩
      rw [dn]
      cases r with
      | own k => cases e; exact q _ F H (Grow.refl sm) (.bl _)
      | d x => cases e; cases x <;> exact q _ F H (Grow.refl sm) (.bl _)
    | _ => cases r <;> cases e
theorem isBB_ok {K : PySem.W.Frag} : Op2 K isBB rIsB' := by
  intro F H v w r s t Q sm r1 r2 e q
  unfold isBB at e
  split at e
  · cases e; exact ⟨_, RO.bl r2, by rw [dec_bl r1]; exact q _ F H (Grow.refl sm) (.bl _)⟩
  · cases e
theorem isntBB_ok {K : PySem.W.Frag} : Op2 K isntBB rNotB' := by
  intro F H v w r s t Q sm r1 r2 e q
  unfold isntBB at e
  split at e
  · cases e; exact ⟨_, RO.bl r2, by rw [dec_bl r1]; exact q _ F H (Grow.refl sm) (.bl _)⟩
  · cases e
@[simp] def cIs : O → O → Option O := alt2 isN isBB
@[simp] def cIsnt : O → O → Option O := alt2 isntN isntBB
section
variable {X : Cx} {c : Ct} {a b e : Expr} {f g : Mn A} {pos : Pos}
theorem he_is (ha : PE X a (T c f)) (hb : PE X b (T c g)) : PE X (.Compare a [.Is] [b] pos) (T c (op2 cIs f g)) := he_cmp (op_isN.or op_isBl') (isN_ok.or isBB_ok) ha hb (nomark _)
theorem he_isnt (ha : PE X a (T c f)) (hb : PE X b (T c g)) : PE X (.Compare a [.IsNot] [b] pos) (T c (op2 cIsnt f g)) := he_cmp (op_notN.or op_notBl') (isntN_ok.or isntBB_ok) ha hb (nomark _)
theorem ht_is (ha : PE X a (T c f)) (hb : PE X b (T c g)) : PT X (.Compare a [.Is] [b] pos) (TB c (tsb (op2 cIs f g))) := ht_op (op_isN.or op_isBl') (isN_ok.or isBB_ok) ha hb (nomark _)
theorem ht_isnt (ha : PE X a (T c f)) (hb : PE X b (T c g)) : PT X (.Compare a [.IsNot] [b] pos) (TB c (tsb (op2 cIsnt f g))) := ht_op (op_notN.or op_notBl') (isntN_ok.or isntBB_ok) ha hb (nomark _)
end

/-! ### in -/
@[simp] def flatD : D → Bool
  | .non => true
  | .bl _ => true
  | .int _ => true
  | .str _ => true
  | _ => false
@[simp] def eqD : D → D → Bool
  | .non, .non => true
  | .bl a, .bl b => a == b
  | .bl a, .int b => (if a then 1 else 0) == b
  | .int a, .bl b => a == (if b then 1 else 0)
  | .int a, .int b => a == b
  | .str a, .str b => a == b
  | _, _ => false
@[simp] def inD (x : D) (xs : List D) : Bool := xs.any fun y => eqD y x
section
variable {K : PySem.W.Frag} {F : Hp}
theorem flatD_ok {v : V} {d : D} (h : RV K F v d) (e : flatD d = true) : flatV v = true := by cases h <;> first | rfl | cases e
theorem eqD_ok {v w : V} {d e : D} (h : RV K F v d) (h' : RV K F w e) (f : flatD d = true) (g : flatD e = true) : eqV v w = eqD d e := by
  cases h <;> first | (cases f; done) | (cases h' <;> first | (cases g; done) | rfl)
theorem flatDs_ok : ∀ {vs : List V} {ds : List D}, RVs K F vs ds → ds.all flatD = true → vs.all flatV = true
  | _, _, .nil, _ => rfl
  | _, _, .cons h t, e => by
    rw [List.all_cons, Bool.and_eq_true] at e ⊢
    exact ⟨flatD_ok h e.1, flatDs_ok t e.2⟩
theorem inD_ok {v : V} {d : D} (h : RV K F v d) (f : flatD d = true) : ∀ {vs : List V} {ds : List D}, RVs K F vs ds → ds.all flatD = true → inV v vs = inD d ds
  | _, _, .nil, _ => rfl
  | _, _, .cons h' t, e => by
    rw [List.all_cons, Bool.and_eq_true] at e
    show (eqV _ v || inV v _) = (eqD _ d || inD d _)
    rw [eqD_ok h' h e.1 f, inD_ok h f t e.2]
end
@[simp] def oLT (r : O) : Option (List D) := match oL r with
  | some xs => some xs
  | none => oT r
theorem RO.seqLT {K : PySem.W.Frag} {F H : Hp} {v : V} {r : O} {xs : List D} (h : RO K F H v r) (s : Same F H) (e : oLT r = some xs) : ∃ a vs, v = .ref a ∧ (SqL K H a vs ∨ SqT K H a vs) ∧ RVs K F vs xs := by
  unfold oLT at e
  split at e
  · rename_i ys hy
    cases e
    obtain ⟨a, vs, e1, e2, e3⟩ := h.seqL s hy
    exact ⟨a, vs, e1, .inl e2, e3⟩
  · obtain ⟨a, vs, e1, e2, _, e3⟩ := h.seqT s e
    exact ⟨a, vs, e1, .inr e2, e3⟩
@[simp] def inSq (neg : Bool) (x y : O) : Option O := match x, oLT y with
  | .d d, some xs => if flatD d && xs.all flatD then some (.d (.bl (if neg then !inD d xs else inD d xs))) else none
  | _, _ => none
theorem inSq_ok {K : PySem.W.Frag} {neg : Bool} : Op2 K (inSq neg) (rIn K neg) := by
  intro F H v w r s t Q sm r1 r2 e q
  unfold inSq at e
  split at e
  · rename_i d xs hy
    split at e
    · rename_i hf
      rw [Bool.and_eq_true] at hf
      cases e
      obtain ⟨a, vs, e1, e2, e3⟩ := r2.seqLT sm hy
      refine ⟨a, vs, e1, e2, flatD_ok r1 hf.1, flatDs_ok e3 hf.2, ?_⟩
      rw [inD_ok r1 hf.1 e3 hf.2]
      exact q _ F H (Grow.refl sm) (.bl _)
    · cases e
  · cases e
/-- one sign in a text -/
@[simp] def inSg (neg : Bool) : O → O → Option O
  | .d (.str x), .d (.str z) => match x.cps.toList with
    | [k] => some (.d (.bl (if neg then !decide (k ∈ z.cps.toList) else decide (k ∈ z.cps.toList))))
    | _ => none
  | _, _ => none
theorem inSg_ok {K : PySem.W.Frag} : Op2 K (inSg false) (fun x y H Q => ∃ (c : Nat) (z : Str), x = .str ⟨#[c]⟩ ∧ y = .str z ∧ Q (.bl (decide (c ∈ z.cps.toList))) H) := by
  intro F H v w r s t Q sm r1 r2 e q
  unfold inSg at e
  split at e
  · rename_i x z
    split at e
    · rename_i k hk
      cases e
      refine ⟨k, z, ?_, RO.str r2, q _ F H (Grow.refl sm) (.bl _)⟩
      rw [RO.str r1]
      obtain ⟨cps⟩ := x
      have : cps = #[k] := by apply Array.toList_inj.mp; exact hk
      rw [this]
    · cases e
  · cases e
theorem notInSg_ok {K : PySem.W.Frag} : Op2 K (inSg true) (fun x y H Q => ∃ (c : Nat) (z : Str), x = .str ⟨#[c]⟩ ∧ y = .str z ∧ Q (.bl (!decide (c ∈ z.cps.toList))) H) := by
  intro F H v w r s t Q sm r1 r2 e q
  unfold inSg at e
  split at e
  · rename_i x z
    split at e
    · rename_i k hk
      cases e
      refine ⟨k, z, ?_, RO.str r2, q _ F H (Grow.refl sm) (.bl _)⟩
      rw [RO.str r1]
      obtain ⟨cps⟩ := x
      have : cps = #[k] := by apply Array.toList_inj.mp; exact hk
      rw [this]
    · cases e
  · cases e
/-! ### dicts -/
section
variable {κ : Type} [DecidableEq κ]
def valD (kvs : List (κ × D)) (k : κ) : Option D := (kvs.find? fun kv => decide (kv.1 = k)).map (·.2)
def putD (kvs : List (κ × D)) (k : κ) (v : D) : List (κ × D) :=
  if (kvs.any fun kv => decide (kv.1 = k)) = true then kvs.map (fun kv => if kv.1 = k then (kv.1, v) else kv) else kvs ++ [(k, v)]
end
@[simp] def keyOf : D → Option Key
  | .int i => some (.inl i)
  | .str x => some (.inr x)
  | _ => none
@[simp] def keysOf : List D → Option (List Key)
  | [] => some []
  | x :: xs => (keyOf x).bind fun k => (keysOf xs).map (k :: ·)
@[simp] def tkeyOf : D → Option (List Key)
  | .tup xs => keysOf xs
  | _ => none
section
variable {K : PySem.W.Frag} {F H : Hp}
theorem keyOf_ok {v : V} {d : D} {k : Key} (h : RV K F v d) (e : keyOf d = some k) : v = kV k := by
  cases h <;> first | (cases e; done) | (cases e; rfl)
theorem keysOf_ok : ∀ {vs : List V} {ds : List D} {ks : List Key}, RVs K F vs ds → keysOf ds = some ks → vs = ks.map kV
  | _, _, _, .nil, e => by cases e; rfl
  | _, _, _, .cons h t, e => by
    obtain ⟨k, e1, e2⟩ := Option.bind_eq_some_iff.mp (show (keyOf _).bind _ = _ from e)
    obtain ⟨ks, e3, rfl⟩ := Option.map_eq_some_iff.mp e2
    rw [List.map_cons, ← keyOf_ok h e1, ← keysOf_ok t e3]
theorem tkeyOf_ok {v : V} {d : D} {k : List Key} (h : RV K F v d) (e : tkeyOf d = some k) : ∃ b, v = .ref b ∧ F b = some (.tup (k.map kV)) := by
  cases h with
  | tup h r => exact ⟨_, rfl, by rw [← keysOf_ok r e]; exact h⟩
  | _ => cases e
def ROpt (K : PySem.W.Frag) (F : Hp) (u : Option V) : Option D → Prop
  | some d => ∃ v, u = some v ∧ RV K F v d
  | none => u = none
theorem RKs.val : ∀ {vs : List (Key × V)} {ds : List (Key × D)} (k : Key), RKs K F vs ds → ROpt K F (valV vs k) (valD ds k)
  | _, _, _, .nil => rfl
  | _, _, k, .cons (k := j) (d := d) h t => by
    by_cases hk : j = k
    · have e1 : ∀ r, valD ((j, d) :: r) k = some d := fun r => by unfold valD; simp [List.find?_cons, hk]
      rw [e1]
      exact ⟨_, valV_pos hk, h⟩
    · have ih := RKs.val k t
      rw [valV_neg (p := (j, _)) hk]
      have e1 : ∀ ds : List (Key × D), valD ((j, d) :: ds) k = valD ds k := fun ds => by unfold valD; simp [List.find?_cons, hk]
      rw [e1]
      exact ih
theorem RTs.val : ∀ {vs : List (List Key × V)} {ds : List (List Key × D)} (k : List Key), RTs K F vs ds → ROpt K F (valV vs k) (valD ds k)
  | _, _, _, .nil => rfl
  | _, _, k, .cons (k := j) (d := d) h t => by
    by_cases hk : j = k
    · have e1 : ∀ r, valD ((j, d) :: r) k = some d := fun r => by unfold valD; simp [List.find?_cons, hk]
      rw [e1]
      exact ⟨_, valV_pos hk, h⟩
    · have ih := RTs.val k t
      rw [valV_neg (p := (j, _)) hk]
      have e1 : ∀ ds : List (List Key × D), valD ((j, d) :: ds) k = valD ds k := fun ds => by unfold valD; simp [List.find?_cons, hk]
      rw [e1]
      exact ih
theorem RKs.any (k : Key) : ∀ {vs : List (Key × V)} {ds : List (Key × D)}, RKs K F vs ds → (vs.any fun kv => decide (kv.1 = k)) = (ds.any fun kv => decide (kv.1 = k))
  | _, _, .nil => rfl
  | _, _, .cons h t => by rw [List.any_cons, List.any_cons, RKs.any k t]
theorem RTs.any (k : List Key) : ∀ {vs : List (List Key × V)} {ds : List (List Key × D)}, RTs K F vs ds → (vs.any fun kv => decide (kv.1 = k)) = (ds.any fun kv => decide (kv.1 = k))
  | _, _, .nil => rfl
  | _, _, .cons h t => by rw [List.any_cons, List.any_cons, RTs.any k t]
theorem RKs.mapP {k : Key} {v : V} {d : D} (r : RV K F v d) : ∀ {vs : List (Key × V)} {ds : List (Key × D)}, RKs K F vs ds → RKs K F (vs.map fun kv => if kv.1 = k then (kv.1, v) else kv) (ds.map fun kv => if kv.1 = k then (kv.1, d) else kv)
  | _, _, .nil => .nil
  | _, _, .cons (k := j) h t => by
    rw [List.map_cons, List.map_cons]
    by_cases hk : j = k
    · rw [if_pos hk, if_pos hk]; exact .cons r (RKs.mapP r t)
    · rw [if_neg hk, if_neg hk]; exact .cons h (RKs.mapP r t)
theorem RTs.mapP {k : List Key} {v : V} {d : D} (r : RV K F v d) : ∀ {vs : List (List Key × V)} {ds : List (List Key × D)}, RTs K F vs ds → RTs K F (vs.map fun kv => if kv.1 = k then (kv.1, v) else kv) (ds.map fun kv => if kv.1 = k then (kv.1, d) else kv)
  | _, _, .nil => .nil
  | _, _, .cons (k := j) h t => by
    rw [List.map_cons, List.map_cons]
    by_cases hk : j = k
    · rw [if_pos hk, if_pos hk]; exact .cons r (RTs.mapP r t)
    · rw [if_neg hk, if_neg hk]; exact .cons h (RTs.mapP r t)
theorem RKs.snoc {k : Key} {v : V} {d : D} (r : RV K F v d) : ∀ {vs : List (Key × V)} {ds : List (Key × D)}, RKs K F vs ds → RKs K F (vs ++ [(k, v)]) (ds ++ [(k, d)])
  | _, _, .nil => .cons r .nil
  | _, _, .cons h t => .cons h (RKs.snoc r t)
theorem RTs.snoc {k : List Key} {v : V} {d : D} (r : RV K F v d) : ∀ {vs : List (List Key × V)} {ds : List (List Key × D)}, RTs K F vs ds → RTs K F (vs ++ [(k, v)]) (ds ++ [(k, d)])
  | _, _, .nil => .cons r .nil
  | _, _, .cons h t => .cons h (RTs.snoc r t)
theorem RKs.put {k : Key} {v : V} {d : D} {vs : List (Key × V)} {ds : List (Key × D)} (h : RKs K F vs ds) (r : RV K F v d) : RKs K F (putK vs k v) (putD ds k d) := by
  unfold putK putD
  rw [h.any k]
  split
  · exact h.mapP r
  · exact h.snoc r
theorem RTs.put {k : List Key} {v : V} {d : D} {vs : List (List Key × V)} {ds : List (List Key × D)} (h : RTs K F vs ds) (r : RV K F v d) : RTs K F (putK vs k v) (putD ds k d) := by
  unfold putK putD
  rw [h.any k]
  split
  · exact h.mapP r
  · exact h.snoc r
theorem RKs.length : ∀ {vs : List (Key × V)} {ds : List (Key × D)}, RKs K F vs ds → vs.length = ds.length
  | _, _, .nil => rfl
  | _, _, .cons _ t => congrArg (· + 1) (RKs.length t)
theorem RTs.length : ∀ {vs : List (List Key × V)} {ds : List (List Key × D)}, RTs K F vs ds → vs.length = ds.length
  | _, _, .nil => rfl
  | _, _, .cons _ t => congrArg (· + 1) (RTs.length t)
end
/-- what a dict holds at a key: none where the key or the dict is of no such kind -/
@[simp] def dget : O → O → Option (Option D)
  | .d (.dk kvs), .d k => (keyOf k).map (valD kvs)
  | .own (.dk kvs), .d k => (keyOf k).map (valD kvs)
  | .d (.dt kvs), .d k => (tkeyOf k).map (valD kvs)
  | .own (.dt kvs), .d k => (tkeyOf k).map (valD kvs)
  | _, _ => none
theorem dget_ok {K : PySem.W.Frag} {F H : Hp} {v w : V} {r s : O} {o : Option D} (sm : Same F H) (r1 : RO K F H v r) (r2 : RO K F H w s) (e : dget r s = some o) :
    ∃ a u, v = .ref a ∧ DGet H a w u ∧ ROpt K F u o := by
  unfold dget at e
  split at e
  · rename_i kvs k
    obtain ⟨j, e1, rfl⟩ := Option.map_eq_some_iff.mp e
    cases r1 with
    | dk h t =>
      rw [keyOf_ok r2 e1]
      exact ⟨_, _, rfl, .k (sm _ _ h), t.val j⟩
  · rename_i kvs k
    obtain ⟨j, e1, rfl⟩ := Option.map_eq_some_iff.mp e
    obtain ⟨a, rfl, _, vs, h, t⟩ := r1
    rw [keyOf_ok r2 e1]
    exact ⟨_, _, rfl, .k h, t.val j⟩
  · rename_i kvs k
    obtain ⟨j, e1, rfl⟩ := Option.map_eq_some_iff.mp e
    cases r1 with
    | dt h t =>
      obtain ⟨b, rfl, hb⟩ := tkeyOf_ok r2 e1
      exact ⟨_, _, rfl, .t (sm _ _ h) (sm _ _ hb), t.val j⟩
  · rename_i kvs k
    obtain ⟨j, e1, rfl⟩ := Option.map_eq_some_iff.mp e
    obtain ⟨a, rfl, _, vs, h, t⟩ := r1
    obtain ⟨b, rfl, hb⟩ := tkeyOf_ok r2 e1
    exact ⟨_, _, rfl, .t h (sm _ _ hb), t.val j⟩
  · cases e
@[simp] def inDc (neg : Bool) (x y : O) : Option O := (dget y x).map fun o => .d (.bl (if neg then !o.isSome else o.isSome))
theorem opt_isSome {K : PySem.W.Frag} {F : Hp} {u : Option V} {o : Option D} (h : ROpt K F u o) : u.isSome = o.isSome := by
  cases o with
  | some d => obtain ⟨x, rfl, _⟩ := h; rfl
  | none => cases h; rfl
theorem inDc_ok {K : PySem.W.Frag} {neg : Bool} : Op2 K (inDc neg) (fun y x H Q => ∃ a o, x = .ref a ∧ DGet H a y o ∧ Q (.bl (if neg then !o.isSome else o.isSome)) H) := by
  intro F H v w r s t Q sm r1 r2 e q
  obtain ⟨o, e1, rfl⟩ := Option.map_eq_some_iff.mp e
  obtain ⟨a, u, rfl, g, m⟩ := dget_ok sm r2 r1 e1
  refine ⟨a, u, rfl, g, ?_⟩
  rw [opt_isSome m]
  exact q _ F H (Grow.refl sm) (.bl _)
theorem inDcF {K : PySem.W.Frag} : Op2 K (inDc false) (fun y x H Q => ∃ a o, x = .ref a ∧ DGet H a y o ∧ Q (.bl o.isSome) H) := inDc_ok (neg := false)
theorem inDcT {K : PySem.W.Frag} : Op2 K (inDc true) (fun y x H Q => ∃ a o, x = .ref a ∧ DGet H a y o ∧ Q (.bl (!o.isSome)) H) := inDc_ok (neg := true)
@[simp] def dIx (x y : O) : Option O := match dget x y with
  | some (some d) => some (.d d)
  | _ => none
theorem dIx_ok {K : PySem.W.Frag} : Op2 K dIx (fun x y H Q => ∃ a v, x = .ref a ∧ DGet H a y (some v) ∧ Q v H) := by
  intro F H v w r s t Q sm r1 r2 e q
  unfold dIx at e
  split at e
  · rename_i d hd
    cases e
    obtain ⟨a, u, rfl, g, x, rfl, rx⟩ := dget_ok sm r1 r2 hd
    exact ⟨a, x, rfl, g, stay sm rx q⟩
  · cases e
section
variable {X : Cx} {c : Ct} {a b e : Expr} {f g : Mn A} {pos : Pos}
@[simp] def cIn (neg : Bool) : O → O → Option O := alt2 (alt2 (inSq neg) (inSg neg)) (inDc neg)
theorem he_inR (hu : X.A.units + 1 < cLine) (hK : c.K = X.K) (hm : behindInMarks .In b = false) (ha : PE X a (T c f)) (hb : PE X b (T c g)) : PE X (.Compare a [.In] [b] pos) (T c (op2 (cIn false) f g)) :=
  PE.mono (PE.or (pe_cmpR (op_in_seq.or op_in_sign) ha hb hm) (pe_cmp (pc_din hu ha hb) hm)) fun σ H Q h => (t_alt2 h).imp (fun h => T_op2 (Op2.or (hK ▸ inSq_ok) inSg_ok) σ H Q h) fun h => T_op2 inDcF σ H Q h
theorem he_notInR (hu : X.A.units + 1 < cLine) (hK : c.K = X.K) (hm : behindInMarks .NotIn b = false) (ha : PE X a (T c f)) (hb : PE X b (T c g)) : PE X (.Compare a [.NotIn] [b] pos) (T c (op2 (cIn true) f g)) :=
  PE.mono (PE.or (pe_cmpR (op_notIn_seq.or op_notIn_sign) ha hb hm) (pe_cmp (pc_dnotin hu ha hb) hm)) fun σ H Q h => (t_alt2 h).imp (fun h => T_op2 (Op2.or (hK ▸ inSq_ok) notInSg_ok) σ H Q h) fun h => T_op2 inDcT σ H Q h
theorem PT.or {X : Cx} {e : Expr} {t t' : TT} (h : PT X e t) (h' : PT X e t') : PT X e (fun σ H Q => t σ H Q ∨ t' σ H Q) := ⟨fun pins s σ H Q I q => q.elim (h.run pins s σ H Q I) (h'.run pins s σ H Q I)⟩
theorem ht_inR (hu : X.A.units + 1 < cLine) (hK : c.K = X.K) (hm : behindInMarks .In b = false) (ha : PE X a (T c f)) (hb : PE X b (T c g)) : PT X (.Compare a [.In] [b] pos) (TB c (tsb (op2 (cIn false) f g))) :=
  PT.mono (PT.or (pt_cmpR (op_in_seq.or op_in_sign) ha hb hm) (pt_cmp (pc_din hu ha hb) hm)) fun σ H Q h => (t_alt2 (t_tsb σ H Q h)).imp (fun h => T_op2 (Op2.or (hK ▸ inSq_ok) inSg_ok) σ H _ h) fun h => T_op2 inDcF σ H (fun x H1 => ∃ k, x = .bl k ∧ Q k H1) h
theorem ht_notInR (hu : X.A.units + 1 < cLine) (hK : c.K = X.K) (hm : behindInMarks .NotIn b = false) (ha : PE X a (T c f)) (hb : PE X b (T c g)) : PT X (.Compare a [.NotIn] [b] pos) (TB c (tsb (op2 (cIn true) f g))) :=
  PT.mono (PT.or (pt_cmpR (op_notIn_seq.or op_notIn_sign) ha hb hm) (pt_cmp (pc_dnotin hu ha hb) hm)) fun σ H Q h => (t_alt2 (t_tsb σ H Q h)).imp (fun h => T_op2 (Op2.or (hK ▸ inSq_ok) notInSg_ok) σ H _ h) fun h => T_op2 inDcT σ H (fun x H1 => ∃ k, x = .bl k ∧ Q k H1) h
end
/-! ### subscripts -/
@[simp] def lIx (x y : O) : Option O := match oL x, y with
  | some xs, .d (.int i) => (atI xs i).map .d
  | _, _ => none
@[simp] def tIx (x y : O) : Option O := match oT x, y with
  | some xs, .d (.int i) => (atI xs i).map .d
  | _, _ => none
@[simp] def sIx : O → O → Option O
  | .d (.str z), .d (.int i) => if z.length ≤ lim then (atI z.cps.toList i).map fun c => .d (.str ⟨#[c]⟩) else none
  | _, _ => none
theorem RVs.atI {K : PySem.W.Frag} {F : Hp} {vs : List V} {ds : List D} {i : Int} {d : D} (r : RVs K F vs ds) (e : L2.atI ds i = some d) : ∃ v, L2.atI vs i = some v ∧ RV K F v d := by
  unfold L2.atI at e ⊢
  obtain ⟨j, e1, e2⟩ := Option.bind_eq_some_iff.mp e
  obtain ⟨v, e3, rv⟩ := r.get e2
  exact ⟨v, by rw [r.length, e1]; exact e3, rv⟩
theorem lIx_ok {K : PySem.W.Frag} : Op2 K lIx (rIxL K) := by
  intro F H v w r s t Q sm r1 r2 e q
  unfold lIx at e
  split at e
  · rename_i xs i hx
    obtain ⟨d, e1, rfl⟩ := Option.map_eq_some_iff.mp e
    obtain ⟨a, vs, rfl, hs, rs⟩ := r1.seqL sm hx
    obtain ⟨u, e2, ru⟩ := rs.atI e1
    exact ⟨a, vs, i, u, rfl, RO.int r2, hs, e2, stay sm ru q⟩
  · cases e
theorem tIx_ok {K : PySem.W.Frag} : Op2 K tIx (rIxT K) := by
  intro F H v w r s t Q sm r1 r2 e q
  unfold tIx at e
  split at e
  · rename_i xs i hx
    obtain ⟨d, e1, rfl⟩ := Option.map_eq_some_iff.mp e
    obtain ⟨a, vs, rfl, hs, _, rs⟩ := r1.seqT sm hx
    obtain ⟨u, e2, ru⟩ := rs.atI e1
    exact ⟨a, vs, i, u, rfl, RO.int r2, hs, e2, stay sm ru q⟩
  · cases e
theorem sIx_ok {K : PySem.W.Frag} : Op2 K sIx rIxS := by
  intro F H v w r s t Q sm r1 r2 e q
  unfold sIx at e
  split at e
  · split at e
    · rename_i z i hl
      obtain ⟨d, e1, rfl⟩ := Option.map_eq_some_iff.mp e
      exact ⟨z, i, d, RO.str r1, RO.int r2, Nat.le_trans hl lim_le, e1, q _ F H (Grow.refl sm) (.str _)⟩
    · cases e
  · cases e
@[simp] def aIx : O → O → Option O := alt2 (alt2 lIx (alt2 tIx sIx)) dIx
section
variable {X : Cx} {c : Ct} {a b e : Expr} {f g : Mn A} {pos : Pos}
theorem he_ix (hu : X.A.units + 1 < cLine) (hK : c.K = X.K) (ha : PE X a (T c f)) (hb : PE X b (T c g)) (hs : PlainIx b := by exact fun _ _ => rfl) : PE X (.Subscript a b pos) (T c (op2 aIx f g)) :=
  PE.mono (PE.or (pe_ix ix_seq ha hb hs) (pe_dget hu ha hb hs)) fun σ H Q h => (t_alt2 h).imp (fun h => T_op2 (Op2.or (hK ▸ lIx_ok) (Op2.or (hK ▸ tIx_ok) sIx_ok)) σ H Q h) fun h => T_op2 dIx_ok σ H Q h
/-! slices -/
@[simp] def liftI (r : Option O) : Mn (Option Int) := fun S => match r with
  | some (.d (.int i)) => .ok (some i) S
  | _ => .bad
@[simp] def part (f : Mn A) : Mn (Option Int) := bnd f fun a S => liftI (view a S) S
@[simp] def nopart : Mn (Option Int) := ret none
theorem ho_none : PO X none (TP c nopart) := ⟨fun pins s σ H Q I h => po_none.run pins s σ H Q I (by
  obtain ⟨F, S, R, h⟩ := h
  exact h none F H (Step.refl R) rfl)⟩
theorem ho_some (ha : PE X a (T c f)) : PO X (some a) (TP c (part f)) := ⟨fun pins s σ H Q I h => (po_some ha).run pins s σ H Q I (by
  obtain ⟨F0, S0, R0, h⟩ := h
  refine G.imp (Gat.bind (Step.refl R0) h) fun v H1 ⟨a, F1, S1, s1, _, ra, g1⟩ => ?_
  cases ev : view a S1 with
  | none => rw [ev] at g1; exact g1.elim
  | some x =>
    rw [ev] at g1
    have ro := ra.ro s1.rel ev
    cases x with
    | own k => exact g1.elim
    | d y =>
      cases y with
      | int i => exact ⟨i, RO.int ro, g1 (some i) F1 H1 s1 rfl⟩
      | _ => exact g1.elim)⟩
end
/-- the items lo .. hi -/
@[simp] def cutD (xs : List D) (lo hi : Option Int) : List D := (xs.drop (HT.sIx xs.length 0 lo)).take (HT.sIx xs.length xs.length hi - HT.sIx xs.length 0 lo)
theorem RVs.cut {K : PySem.W.Frag} {F : Hp} {vs : List V} {ds : List D} (r : RVs K F vs ds) (lo hi : Option Int) : RVs K F (cutV vs lo hi) (cutD ds lo hi) := by
  unfold cutV cutD
  rw [r.length]
  exact (r.drop _).take _
@[simp] def sl3 (x : O) (lo hi : Option Int) : Option O := match x with
  | .d (.str z) => if z.length ≤ lim then some (.d (.str (cutS z lo hi))) else none
  | .d (.tup xs) => some (.d (.tup (cutD xs lo hi)))
  | .d (.lst xs) => some (.own (.lst (cutD xs lo hi)))
  | .d (.lk xs) => some (.own (.lst (cutD xs lo hi)))
  | .own (.lst xs) => some (.own (.lst (cutD xs lo hi)))
  | _ => none
@[simp] def slc (f : Mn A) (lo hi : Mn (Option Int)) : Mn A := bnd f fun a => bnd lo fun l => bnd hi fun h S => lift ((view a S).bind fun x => sl3 x l h) S

theorem cut_whole {α : Type} {xs : List α} {lo hi : Option Int} (h : HT.sIx xs.length 0 lo = 0 ∧ HT.sIx xs.length xs.length hi = xs.length) : (xs.drop (HT.sIx xs.length 0 lo)).take (HT.sIx xs.length xs.length hi - HT.sIx xs.length 0 lo) = xs := by
  rw [h.1, h.2, List.drop_zero, Nat.sub_zero, List.take_length]
theorem sl3_ok {K : PySem.W.Frag} {F H : Hp} {v : V} {r s : O} {lo hi : Option Int} {Q : VK} (sm : Same F H) (r1 : RO K F H v r) (e : sl3 r lo hi = some s) (q : ∀ v' F' H', Grow F H F' H' → RN K H F' H' v' s → Q v' H') :
    rSlL K v lo hi H Q ∨ rSlA K v lo hi H Q ∨ rSlS v lo hi H Q := by
  have ll : ∀ {xs : List D}, oL r = some xs → s = .own (.lst (cutD xs lo hi)) → rSlL K v lo hi H Q := fun {xs} e1 e2 => by
    subst e2
    obtain ⟨a, vs, rfl, h1, h2⟩ := r1.seqL sm e1
    exact ⟨a, vs, rfl, h1, new_list sm (h2.cut lo hi) q⟩
  cases r with
  | d x =>
    cases x with
    | str z =>
      simp only [sl3] at e
      split at e
      · rename_i hl
        cases e
        exact .inr (.inr ⟨z, RO.str r1, Nat.le_trans hl lim_le, q _ F H (Grow.refl sm) (.str _)⟩)
      · cases e
    | tup xs =>
      cases e
      obtain ⟨a, vs, rfl, h1, h2⟩ := RV.tup_inv r1
      refine .inr (.inl ⟨a, vs, rfl, .inl (.inl (sm _ _ h1)), fun w => ?_, fun _ => new_tup sm (h2.cut lo hi) q⟩)
      refine q _ F H (Grow.refl sm) ?_
      have w' : HT.sIx xs.length 0 lo = 0 ∧ HT.sIx xs.length xs.length hi = xs.length := by rw [← h2.length]; exact w
      show RV K F (.ref a) (.tup (cutD xs lo hi))
      unfold cutD
      rw [cut_whole w']
      exact .tup h1 h2
    | lst xs => cases e; exact .inl (ll rfl rfl)
    | lk xs => cases e; exact .inl (ll rfl rfl)
    | _ => cases e
  | own k =>
    cases k with
    | lst xs => cases e; exact .inl (ll rfl rfl)
    | _ => cases e
theorem he_slice {X : Cx} {c : Ct} {a : Expr} {lo hi : Option Expr} {f : Mn A} {l h : Mn (Option Int)} {pos p2 : Pos} (hK : c.K = X.K) (ha : PE X a (T c f)) (hl : PO X lo (TP c l)) (hh : PO X hi (TP c h)) : PE X (.Subscript a (.Slice lo hi none p2) pos) (T c (slc f l h)) :=
  PE.mono (pe_slice (sl_list.or (sl_tupA.or sl_str)) ha hl hh) fun σ H Q q => by
    obtain ⟨F0, S0, R0, q⟩ := q
    refine G.imp (Gat.bind (Step.refl R0) q) fun v H1 ⟨x, F1, S1, s1, _, ra, g1⟩ => ?_
    refine G.imp (Gat.bind (RR := fun _ _ _ _ _ (w : Option Int) (b : Option Int) => w = b) s1 g1) fun lo' H2 ⟨l', F2, S2, s2, s12, el, g2⟩ => ?_
    refine G.imp (Gat.bind (RR := fun _ _ _ _ _ (w : Option Int) (b : Option Int) => w = b) s2 g2) fun hi' H3 ⟨h', F3, S3, s3, s23, eh, g3⟩ => ?_
    cases el
    cases eh
    obtain ⟨z, ez, k⟩ := gat_lift s3 g3
    obtain ⟨y, ey, ez⟩ := Option.bind_eq_some_iff.mp ez
    exact hK ▸ sl3_ok s3.rel.sub ((ra.step (s12.trans s23)).ro s3.rel ey) ez k

/-! ### argument lists -/
structure RAs (K : PySem.W.Frag) (H0 : Hp) (σ : St) (F H : Hp) (S : Sl) (vs : List V) (as : List A) : Prop where
  len : vs.length = as.length
  at_ : ∀ (i : Nat) (v : V) (a : A), vs[i]? = some v → as[i]? = some a → RA K H0 σ F H S v a
  ne : ∀ (i j : Nat) (x : Addr) (k k' : C), as[i]? = some (.v (.own k)) → as[j]? = some (.v (.own k')) → vs[i]? = some (.ref x) → vs[j]? = some (.ref x) → i = j
@[simp] def evs : List (Mn A) → Mn (List A)
  | [] => ret []
  | f :: fs => bnd f fun a => bnd (evs fs) fun as => ret (a :: as)
abbrev TAs (c : Ct) (fs : List (Mn A)) : TA := G c (RAs c.K) (evs fs)
section
variable {X : Cx} {c : Ct} {e : Expr} {es : List Expr} {f : Mn A} {fs : List (Mn A)}
theorem ha_nil : PA X [] (TAs c []) := PA.mono pa_nil fun σ H Q h => by
  obtain ⟨F, S, R, h⟩ := h
  exact h [] F H (Step.refl R) ⟨rfl, fun i v a q => by simp at q, fun i j x k k' q => by simp at q⟩
theorem ha_cons (ha : PE X e (T c f)) (hr : PA X es (TAs c fs)) (hs : starEach (e :: es) X.env = (false, eval e X.env) :: starEach es X.env := by rfl) : PA X (e :: es) (TAs c (f :: fs)) := PA.mono (pa_cons ha hr hs) fun σ H Q h => by
  obtain ⟨F0, S0, R0, h⟩ := h
  refine G.imp (Gat.bind (Step.refl R0) h) fun v H1 ⟨a, F1, S1, s1, _, ra, g1⟩ => ?_
  refine G.imp (Gat.bind (RR := RAs c.K) s1 g1) fun vs H2 ⟨as, F2, S2, s2, s12, rs, g2⟩ => ?_
  refine g2 (v :: vs) F2 H2 s2 ⟨by rw [List.length_cons, List.length_cons, rs.len], fun i u b q1 q2 => ?_, fun i j x k k' q1 q2 q3 q4 => ?_⟩
  · cases i with
    | zero => simp at q1 q2; subst q1; subst q2; exact ra.step s12
    | succ i => exact (rs.at_ i u b (by simpa using q1) (by simpa using q2)).older s1
  · have key : ∀ (j : Nat) (k' : C), a = .v (.own k) → v = .ref x → as[j]? = some (.v (.own k')) → vs[j]? = some (.ref x) → False := fun j k' ea ev p2 p4 => by
      subst ea ev
      obtain ⟨b, eb, _, rc, _, _⟩ := ra
      cases eb
      obtain ⟨o, ho⟩ := rc.any
      obtain ⟨b', eb', _, _, _, nw⟩ := rs.at_ j _ _ p4 p2
      cases eb'
      rw [ho] at nw
      cases nw
    cases i with
    | zero =>
      cases j with
      | zero => rfl
      | succ j => simp at q1 q2 q3 q4; exact (key j k' q1 q3 q2 q4).elim
    | succ i =>
      cases j with
      | zero =>
        simp at q1 q2 q3 q4
        have : False := by
          subst q2 q4
          obtain ⟨b, eb, _, rc, _, _⟩ := ra
          cases eb
          obtain ⟨o, ho⟩ := rc.any
          obtain ⟨b', eb', _, _, _, nw⟩ := rs.at_ i _ _ q3 q1
          cases eb'
          rw [ho] at nw
          cases nw
        exact this.elim
      | succ j => rw [rs.ne i j x k k' (by simpa using q1) (by simpa using q2) (by simpa using q3) (by simpa using q4)]
end
end FR

namespace FR
open PySem PySem.Spec L2

/-! ### items are frozen where they are laid -/
@[simp] def toD (a : A) : Mn D := fun S => match a with
  | .v (.d x) => .ok x S
  | .v (.own k) => .ok (fz k) S
  | .sl i => match S[i]? with
    | some (some (.d x)) => .ok x S
    | some (some (.own k)) => .ok (fz k) (S.set i (some (.d (fz k))))
    | _ => .bad
@[simp] def frzs : List A → Mn (List D)
  | [] => ret []
  | a :: as => bnd (toD a) fun d => bnd (frzs as) fun ds => ret (d :: ds)
section
variable {K : PySem.W.Frag} {fx : Nat → Bool} {σ : St} {F H F0 H0 : Hp} {S S0 S1 : Sl} {v : V}
theorem toD_ok {a : A} {d : D} (s : Step K fx σ F0 H0 S0 σ F H S) (r : RA K H0 σ F H S v a) (e : toD a S = .ok d S1) : ∃ F', Step K fx σ F0 H0 S0 σ F' H S1 ∧ Same F F' ∧ RV K F' v d ∧
    (∀ b, ¬ Own σ S b → (∀ k, a = .v (.own k) → v ≠ .ref b) → F' b = F b) ∧ ∀ b, Own σ S1 b → Own σ S b := by
  cases a with
  | v r' =>
    cases r' with
    | d x => cases e; exact ⟨F, s, Same.refl _, r, fun _ _ _ => rfl, fun _ o => o⟩
    | own k =>
      cases e
      obtain ⟨a, rfl, f, rc, no, nw⟩ := r
      obtain ⟨F', st, m, q, rv⟩ := Step.freezeT s f rc no nw
      exact ⟨F', st, m, rv, fun b _ h => q b fun z => h k rfl (by rw [z]), fun _ o => o⟩
  | sl i =>
    have r' : σ[i]? = some (some v) := r
    simp only [toD] at e
    cases ei : S[i]? with
    | none => rw [ei] at e; cases e
    | some z =>
      cases z with
      | none => rw [ei] at e; cases e
      | some z =>
        cases z with
        | d x =>
          rw [ei] at e
          cases e
          obtain ⟨u, e1, ro⟩ := s.rel.sl i _ ei
          rw [r'] at e1
          cases e1
          exact ⟨F, s, Same.refl _, ro, fun _ _ _ => rfl, fun _ o => o⟩
        | own k =>
          rw [ei] at e
          cases e
          obtain ⟨F', st, rv, q⟩ := Step.freeze (fx := fx) s.rel ei r'
          refine ⟨F', s.trans st, st.mono, rv, fun b h _ => q b h, fun b o => ?_⟩
          obtain ⟨j, c, q1, q2⟩ := o
          by_cases hj : i = j
          · subst hj
            have hi : i < S.length := by
              rcases Nat.lt_or_ge i S.length with h | h
              · exact h
              · rw [List.getElem?_eq_none h] at ei; cases ei
            rw [List.getElem?_set_self hi] at q1
            cases q1
          · rw [List.getElem?_set_ne hj] at q1
            exact ⟨j, c, q1, q2⟩
theorem RAs.tail {vs : List V} {a : A} {as : List A} (r : RAs K H0 σ F H S (v :: vs) (a :: as)) : RAs K H0 σ F H S vs as :=
  ⟨by have := r.len; simpa using this, fun i u b q1 q2 => r.at_ (i + 1) u b (by simpa using q1) (by simpa using q2), fun i j x k k' q1 q2 q3 q4 => by
    have := r.ne (i + 1) (j + 1) x k k' (by simpa using q1) (by simpa using q2) (by simpa using q3) (by simpa using q4)
    omega⟩
theorem frzs_ok : ∀ {as : List A} {vs : List V} {F : Hp} {S : Sl} {ds : List D}, Step K fx σ F0 H0 S0 σ F H S → RAs K H0 σ F H S vs as → frzs as S = .ok ds S1 → ∃ F', Step K fx σ F0 H0 S0 σ F' H S1 ∧ Same F F' ∧ RVs K F' vs ds
  | [], vs, F, S, ds, s, r, e => by
    cases e
    have : vs = [] := List.length_eq_zero_iff.mp (by simpa using r.len)
    subst this
    exact ⟨F, s, Same.refl _, .nil⟩
  | a :: as, vs, F, S, ds, s, r, e => by
    cases vs with
    | nil => exact absurd r.len (by simp)
    | cons v vs =>
      simp only [frzs, bnd] at e
      cases e1 : toD a S with
      | bad => rw [e1] at e; cases e
      | exc x S' => rw [e1] at e; cases e
      | ok d S2 =>
        rw [e1] at e
        simp only at e
        cases e2 : frzs as S2 with
        | bad => rw [e2] at e; cases e
        | exc x S' => rw [e2] at e; cases e
        | ok ds' S3 =>
          rw [e2] at e
          cases e
          obtain ⟨F1, s1, m1, rv, q1, q2⟩ := toD_ok s (r.at_ 0 v a rfl rfl) e1
          have r1 : RAs K H0 σ F1 H S2 vs as := by
            refine ⟨r.tail.len, fun i u b h1 h2 => ?_, r.tail.ne⟩
            have ra := r.tail.at_ i u b h1 h2
            cases b with
            | sl j => exact ra
            | v r' =>
              cases r' with
              | d x => exact RV.mono m1 ra
              | own k =>
                obtain ⟨p, rfl, f, rc, no, nw⟩ := ra
                refine ⟨p, rfl, ?_, rc.mono m1 (fun _ h => h), fun o => no (q2 p o), nw⟩
                rw [q1 p no fun k' ea ev => ?_]
                · exact f
                · subst ea
                  have := r.ne 0 (i + 1) p k' k rfl (by simpa using h2) (by simpa using ev) (by simpa using h1)
                  omega
          obtain ⟨F2, s2, m2, rs⟩ := frzs_ok s1 r1 e2
          exact ⟨F2, s2, m1.trans m2, .cons (rv.mono m2) rs⟩
end
@[simp] def mkT (fs : List (Mn A)) : Mn A := bnd (evs fs) fun as => bnd (frzs as) fun ds => ret (.v (.d (.tup ds)))
@[simp] def mkL (fs : List (Mn A)) : Mn A := bnd (evs fs) fun as => bnd (frzs as) fun ds => ret (.v (.own (.lst ds)))
theorem evs_len : ∀ {fs : List (Mn A)} {S S' : Sl} {as : List A}, evs fs S = .ok as S' → as.length = fs.length
  | [], _, _, _, e => by cases e; rfl
  | f :: fs, S, S', as, e => by
    simp only [evs, bnd] at e
    cases e1 : f S with
    | bad => rw [e1] at e; cases e
    | exc x S' => rw [e1] at e; cases e
    | ok a S1 =>
      rw [e1] at e
      simp only at e
      cases e2 : evs fs S1 with
      | bad => rw [e2] at e; cases e
      | exc x S' => rw [e2] at e; cases e
      | ok as' S2 => rw [e2] at e; cases e; rw [List.length_cons, List.length_cons, evs_len e2]
section
variable {X : Cx} {c : Ct} {es : List Expr} {fs : List (Mn A)} {pos : Pos}
/-- behind the items: all frozen -/
theorem t_items {g : List D → Mn A} {σ : St} {H : Hp} {Q : VK} (h : T c (bnd (evs fs) fun as => bnd (frzs as) g) σ H Q) : TAs c fs σ H (fun vs H1 => vs.length = fs.length ∧ ∃ F0 H0 S0 F1 S1 ds, Step c.K c.fx σ F0 H0 S0 σ F1 H1 S1 ∧ RVs c.K F1 vs ds ∧ Gat c (RA c.K) σ F0 H0 S0 Q (g ds S1)) := by
  obtain ⟨F0, S0, R0, h⟩ := h
  refine ⟨F0, S0, R0, ?_⟩
  simp only [bnd] at h
  cases e : evs fs S0 with
  | bad => rw [e] at h; exact h
  | exc x S' => rw [e] at h; exact h
  | ok as S1 =>
    rw [e] at h
    simp only at h
    intro vs F1 H1 s1 rs
    refine ⟨by rw [rs.len, evs_len e], ?_⟩
    cases e2 : frzs as S1 with
    | bad => rw [e2] at h; exact h.elim
    | exc x S' =>
      exfalso
      clear h
      have : ∀ (as : List A) (S S' : Sl) (x : Ex), frzs as S ≠ .exc x S' := by
        intro as
        induction as with
        | nil => intro S S' x h; cases h
        | cons a as ih =>
          intro S S' x h
          simp only [frzs, bnd] at h
          cases e1 : toD a S with
          | bad => rw [e1] at h; cases h
          | exc y S2 =>
            cases a with
            | v r => cases r <;> cases e1
            | sl i =>
              simp only [toD] at e1
              split at e1 <;> cases e1
          | ok d S2 =>
            rw [e1] at h
            simp only at h
            cases e3 : frzs as S2 with
            | bad => rw [e3] at h; cases h
            | exc y S3 => exact ih _ _ _ e3
            | ok ds S3 => rw [e3] at h; cases h
      exact this _ _ _ _ e2
    | ok ds S2 =>
      rw [e2] at h
      obtain ⟨F2, s2, m, rv⟩ := frzs_ok s1 rs e2
      exact ⟨F0, H, S0, F2, S2, ds, s2, rv, h⟩
theorem gat_ret {σ : St} {F0 H0 F H : Hp} {S0 S : Sl} {Q : VK} {r : O} (s : Step c.K c.fx σ F0 H0 S0 σ F H S) (h : Gat c (RA c.K) σ F0 H0 S0 Q (ret (.v r) S)) : ∀ v F' H', Grow F H F' H' → RN c.K H F' H' v r → Q v H' := by
  obtain ⟨x, e, k⟩ := gat_lift (r := some r) s h
  cases e
  exact k
theorem he_tup {k} (h : PA X es (TAs c fs)) (hl : fs.length ≤ lim := by decide) : PE X (.Tuple es k pos) (T c (mkT fs)) := PE.mono (pe_tup h) fun σ H Q q => by
  refine G.imp (t_items q) fun vs H1 ⟨hn, F0, H0, S0, F1, S1, ds, s1, rv, g⟩ => ⟨by rw [hn]; exact Nat.le_trans hl lim_le, ?_⟩
  exact new_tup s1.rel.sub rv (gat_ret s1 g)
theorem he_lst (h : PA X es (TAs c fs)) (hl : fs.length ≤ lim := by decide) : PE X (.List es pos) (T c (mkL fs)) := PE.mono (pe_lst h) fun σ H Q q => by
  refine G.imp (t_items q) fun vs H1 ⟨hn, F0, H0, S0, F1, S1, ds, s1, rv, g⟩ => ⟨by rw [hn]; exact Nat.le_trans hl lim_le, ?_⟩
  exact new_list s1.rel.sub rv (gat_ret s1 g)
end

/-! ### calls of built-ins, by what is to be seen of the arguments -/
@[simp] def views : List A → Sl → Option (List O)
  | [], _ => some []
  | a :: as, S => (view a S).bind fun x => (views as S).map (x :: ·)
inductive ROs (K : PySem.W.Frag) (F H : Hp) : List V → List O → Prop
  | nil : ROs K F H [] []
  | cons {v : V} {r : O} {vs : List V} {rs : List O} : RO K F H v r → ROs K F H vs rs → ROs K F H (v :: vs) (r :: rs)
theorem RAs.ros {K : PySem.W.Frag} {H0 : Hp} {σ : St} {F H : Hp} {S : Sl} (R : Rel K F H σ S) : ∀ {vs : List V} {as : List A} {rs : List O}, RAs K H0 σ F H S vs as → views as S = some rs → ROs K F H vs rs
  | [], [], _, _, e => by cases e; exact .nil
  | [], _ :: _, _, r, _ => absurd r.len (by simp)
  | _ :: _, [], _, r, _ => absurd r.len (by simp)
  | v :: vs, a :: as, rs, r, e => by
    obtain ⟨x, e1, e2⟩ := Option.bind_eq_some_iff.mp (show (view a S).bind _ = _ from e)
    obtain ⟨xs, e3, rfl⟩ := Option.map_eq_some_iff.mp e2
    exact .cons ((r.at_ 0 v a rfl rfl).ro R e1) (RAs.ros R r.tail e3)
def OpN (K : PySem.W.Frag) (g : List O → Option O) (R : List V → Hp → VK → Prop) : Prop :=
  ∀ F H vs rs s Q, Same F H → ROs K F H vs rs → g rs = some s → (∀ v' F' H', Grow F H F' H' → RN K H F' H' v' s → Q v' H') → R vs H Q
@[simp] def callN (g : List O → Option O) (fs : List (Mn A)) : Mn A := bnd (evs fs) fun as S => lift ((views as S).bind g) S
section
variable {X : Cx} {c : Ct} {e : Expr} {es : List Expr} {fs : List (Mn A)} {pos p : Pos} {x : Str}
theorem T_opN {g : List O → Option O} {R : List V → Hp → VK → Prop} (ho : OpN c.K g R) (σ : St) (H : Hp) (Q : VK) (h : T c (callN g fs) σ H Q) : tCB R (TAs c fs) σ H Q := by
  obtain ⟨F0, S0, R0, h⟩ := h
  refine G.imp (Gat.bind (RR := RAs c.K) (Step.refl R0) h) fun vs H1 ⟨as, F1, S1, s1, _, rs, g1⟩ => ?_
  obtain ⟨z, ez, k⟩ := gat_lift s1 g1
  obtain ⟨os, eo, ez⟩ := Option.bind_eq_some_iff.mp ez
  exact ho F1 H1 vs os z Q s1.rel.sub (rs.ros s1.rel eo) ez k
theorem he_bi {id : String} {g : List O → Option O} {R : List V → Hp → VK → Prop} (hc : CallR X (.builtin id) R) (ho : OpN c.K g R) (hg : Gl X x) (hm : X.mg x = none) (hv : bootBuiltins x = some (.builtin id)) (ha : PA X (e :: es) (TAs c fs)) (hn : x ≠ "__name__" := by decide) (hdb : (x == ("__debug__" : Str)) = false := by decide)
    (he : starEach (e :: es) X.env = (false, eval e X.env) :: starEach es X.env := by rfl) (hpl : (backTo pos (starEach es X.env)).any (·.1) = false := by rfl) : PE X (.Call (.Name x p) (e :: es) [] pos) (T c (callN g fs)) := PE.mono (pe_callB hc hg hm hv ha hn hdb he hpl) (T_opN ho)
theorem he_bt {n : String} {g : List O → Option O} {R : List V → Hp → VK → Prop} (hc : CallR X (.type n) R) (ho : OpN c.K g R) (hg : Gl X x) (hm : X.mg x = none) (hv : bootBuiltins x = some (.type n)) (ha : PA X (e :: es) (TAs c fs)) (hn : x ≠ "__name__" := by decide) (hdb : (x == ("__debug__" : Str)) = false := by decide)
    (he : starEach (e :: es) X.env = (false, eval e X.env) :: starEach es X.env := by rfl) (hpl : (backTo pos (starEach es X.env)).any (·.1) = false := by rfl) : PE X (.Call (.Name x p) (e :: es) [] pos) (T c (callN g fs)) := PE.mono (pe_callTy hc hg hm hv ha hn hdb he hpl) (T_opN ho)
end
end FR

namespace FR
open PySem PySem.Spec L2

/-! ### defs of the program as functions of their arguments -/
/-- a def's mirror: from what the arguments hold to what is handed back; the slots: what the arguments hold then -/
abbrev Fm := List O → Res O
/-- what a def promises: no exception leaves it -/
def sp (K : PySem.W.Frag) (n : Nat) (m : Fm) : Sp := fun vs H Q _ => vs.length = n ∧ ∃ F os, Rel K F H (vs.map some) (os.map some) ∧ match m os with
  | .ok r S' => ∀ v F' H', Step K (fun _ => true) (vs.map some) F H (os.map some) (vs.map some) F' H' S' → RT K H (vs.map some) F' H' S' v r → Q v H'
  | _ => False
@[simp] def isOwn : Option (Option O) → Bool
  | some (some (.own _)) => true
  | _ => false
/-- the slots whose cells are lent -/
@[simp] def loans : List A → Sl → List Nat
  | [], _ => []
  | .sl i :: as, S => if isOwn S[i]? then i :: loans as S else loans as S
  | .v _ :: as, S => loans as S
/-- what was lent comes back -/
@[simp] def back : List A → Sl → Sl → Sl
  | .sl i :: as, s :: S', S => back as S' (if isOwn S[i]? then S.set i s else S)
  | .v _ :: as, _ :: S', S => back as S' S
  | _, _, S => S
@[simp] def callM (m : Fm) (fs : List (Mn A)) : Mn A := bnd (evs fs) fun as S => match views as S with
  | some os => if (loans as S).Nodup then (match m os with
    | .ok r S' => .ok (.v r) (back as S' S)
    | _ => .bad) else .bad
  | none => .bad
section
variable {K : PySem.W.Frag} {fx : Nat → Bool} {σ : St} {F H F0 H0 F' H' : Hp} {S S0 : Sl} {vs : List V} {as : List A} {os : List O}
theorem isOwn_iff {S : Sl} {i : Nat} : isOwn S[i]? = true ↔ ∃ k, S[i]? = some (some (.own k)) := by
  constructor
  · intro h
    cases e : S[i]? with
    | none => rw [e] at h; cases h
    | some z =>
      cases z with
      | none => rw [e] at h; cases h
      | some r =>
        cases r with
        | d x => rw [e] at h; cases h
        | own k => exact ⟨k, rfl⟩
  · rintro ⟨k, e⟩
    rw [e]
    rfl
theorem mem_loans : ∀ {as : List A} {i : Nat}, i ∈ loans as S ↔ A.sl i ∈ as ∧ isOwn S[i]? = true
  | [], i => by simp
  | .sl j :: as, i => by
    by_cases h : isOwn S[j]? = true
    · simp only [loans, h, if_true, List.mem_cons, mem_loans (as := as)]
      constructor
      · rintro (rfl | ⟨a, b⟩)
        · exact ⟨.inl rfl, h⟩
        · exact ⟨.inr a, b⟩
      · rintro ⟨a | a, b⟩
        · cases a; exact .inl rfl
        · exact .inr ⟨a, b⟩
    · simp only [loans, h, Bool.false_eq_true, if_false, List.mem_cons, mem_loans (as := as)]
      constructor
      · rintro ⟨a, b⟩; exact ⟨.inr a, b⟩
      · rintro ⟨a | a, b⟩
        · cases a; exact absurd b h
        · exact ⟨a, b⟩
  | .v r :: as, i => by
    simp only [loans, List.mem_cons, mem_loans (as := as)]
    constructor
    · rintro ⟨a, b⟩; exact ⟨.inr a, b⟩
    · rintro ⟨a | a, b⟩
      · cases a
      · exact ⟨a, b⟩
theorem views_get : ∀ {as : List A} {os : List O} {i : Nat} {a : A} {r : O}, views as S = some os → as[i]? = some a → os[i]? = some r → view a S = some r
  | [], _, _, _, _, e, h, _ => by simp at h
  | b :: as, os, i, a, r, e, h1, h2 => by
    obtain ⟨x, e1, e2⟩ := Option.bind_eq_some_iff.mp (show (view b S).bind _ = _ from e)
    obtain ⟨xs, e3, rfl⟩ := Option.map_eq_some_iff.mp e2
    cases i with
    | zero => simp at h1 h2; subst h1; subst h2; exact e1
    | succ i => exact views_get (i := i) e3 (by simpa using h1) (by simpa using h2)
theorem views_len : ∀ {as : List A} {os : List O}, views as S = some os → os.length = as.length
  | [], _, e => by cases e; rfl
  | b :: as, os, e => by
    obtain ⟨x, e1, e2⟩ := Option.bind_eq_some_iff.mp (show (view b S).bind _ = _ from e)
    obtain ⟨xs, e3, rfl⟩ := Option.map_eq_some_iff.mp e2
    rw [List.length_cons, List.length_cons, views_len e3]
/-- two places of one lent slot are one -/
theorem loans_inj : ∀ {as : List A}, (loans as S).Nodup → ∀ {i j n : Nat}, as[i]? = some (.sl n) → as[j]? = some (.sl n) → isOwn S[n]? = true → i = j
  | [], _, _, _, _, h, _, _ => by simp at h
  | a :: as, nd, i, j, n, h1, h2, ho => by
    have tl : (loans as S).Nodup := by
      cases a with
      | sl m =>
        by_cases hm : isOwn S[m]? = true
        · simp only [loans, hm, if_true] at nd; exact (List.nodup_cons.mp nd).2
        · simp only [loans, hm, Bool.false_eq_true, if_false] at nd; exact nd
      | v r => exact nd
    have hd : a = .sl n → A.sl n ∈ as → False := fun e m => by
      subst e
      simp only [loans, ho, if_true] at nd
      exact (List.nodup_cons.mp nd).1 (mem_loans.mpr ⟨m, ho⟩)
    cases i with
    | zero =>
      cases j with
      | zero => rfl
      | succ j =>
        simp at h1 h2
        exact (hd h1 (List.mem_of_getElem? h2)).elim
    | succ i =>
      cases j with
      | zero =>
        simp at h1 h2
        exact (hd h2 (List.mem_of_getElem? h1)).elim
      | succ j => rw [loans_inj tl (i := i) (j := j) (by simpa using h1) (by simpa using h2) ho]
/-- the arguments, as slots of the callee -/
theorem RAs.rel (R : Rel K F H σ S) (ra : RAs K H0 σ F H S vs as) (ev : views as S = some os) (nd : (loans as S).Nodup) : Rel K F H (vs.map some) (os.map some) := by
  have hl : vs.length = os.length := by rw [ra.len, views_len ev]
  have g1 : ∀ {i : Nat} {r : O}, (os.map some)[i]? = some (some r) → ∃ v a, vs[i]? = some v ∧ as[i]? = some a ∧ view a S = some r ∧ RA K H0 σ F H S v a := fun {i r} h => by
    rw [List.getElem?_map] at h
    obtain ⟨r', hr, e⟩ := Option.map_eq_some_iff.mp h
    cases e
    have hi : i < os.length := (List.getElem?_eq_some_iff.mp hr).1
    have ha : i < as.length := by rw [← views_len ev]; exact hi
    have hv : i < vs.length := by omega
    exact ⟨_, _, List.getElem?_eq_getElem hv, List.getElem?_eq_getElem ha, views_get ev (List.getElem?_eq_getElem ha) hr, ra.at_ i _ _ (List.getElem?_eq_getElem hv) (List.getElem?_eq_getElem ha)⟩
  have gv : ∀ {i : Nat} {v : V}, (vs.map some)[i]? = some (some v) ↔ vs[i]? = some v := fun {i v} => by
    rw [List.getElem?_map]
    constructor
    · intro h; obtain ⟨u, h1, h2⟩ := Option.map_eq_some_iff.mp h; cases h2; exact h1
    · intro h; rw [h] <;> rfl
  refine ⟨R.sub, fun i r h => ?_, fun i j k k' a h1 h2 h3 h4 => ?_, by rw [List.length_map, List.length_map, hl]⟩
  · obtain ⟨v, a, e1, e2, e3, ra'⟩ := g1 h
    exact ⟨v, gv.mpr e1, ra'.ro R e3⟩
  · obtain ⟨v, x, e1, e2, e3, r1⟩ := g1 h1
    obtain ⟨w, y, f1, f2, f3, r2⟩ := g1 h2
    have ev1 : v = .ref a := by rw [gv.mp h3] at e1; cases e1; rfl
    have ev2 : w = .ref a := by rw [gv.mp h4] at f1; cases f1; rfl
    subst ev1 ev2
    cases x with
    | v r =>
      simp only [view, Option.some.injEq] at e3
      subst e3
      cases y with
      | v s =>
        simp only [view, Option.some.injEq] at f3
        subst f3
        exact ra.ne i j a k k' e2 f2 e1 f1
      | sl m =>
        obtain ⟨b, eb, _, _, no, _⟩ := r1
        cases eb
        refine absurd ⟨m, k', ?_, r2⟩ no
        cases q : S[m]? with
        | none => simp [view, q] at f3
        | some z => simp [view, q] at f3; rw [f3]
    | sl n =>
      have en : S[n]? = some (some (.own k)) := by
        cases q : S[n]? with
        | none => simp [view, q] at e3
        | some z => simp [view, q] at e3; rw [e3]
      cases y with
      | v s =>
        simp only [view, Option.some.injEq] at f3
        subst f3
        obtain ⟨b, eb, _, _, no, _⟩ := r2
        cases eb
        exact absurd ⟨n, k, en, r1⟩ no
      | sl m =>
        have em : S[m]? = some (some (.own k')) := by
          cases q : S[m]? with
          | none => simp [view, q] at f3
          | some z => simp [view, q] at f3; rw [f3]
        have := R.inj n m k k' a en em r1 r2
        subst this
        exact loans_inj nd e2 f2 (isOwn_iff.mpr ⟨k, en⟩)
/-- what stands at a slot behind a call -/
theorem back_get : ∀ {as : List A} {S' S : Sl} {i : Nat} {r : Option O}, as.length = S'.length → (loans as S).Nodup → (back as S' S)[i]? = some r →
    (isOwn S[i]? = true ∧ ∃ j : Nat, as[j]? = some (A.sl i) ∧ S'[j]? = some r) ∨ ((isOwn S[i]? = true → A.sl i ∉ as) ∧ S[i]? = some r)
  | [], S', S, i, r, _, _, h => .inr ⟨fun _ m => (by cases m), (by cases S' <;> exact h)⟩
  | .v x :: as, S', S, i, r, hl, nd, h => by
    cases S' with
    | nil => simp at hl
    | cons s S' =>
      rcases back_get (as := as) (S' := S') (S := S) (by simpa using hl) nd h with ⟨a, j, e1, e2⟩ | ⟨a, b⟩
      · exact .inl ⟨a, j + 1, by simpa using e1, by simpa using e2⟩
      · exact .inr ⟨fun o m => by
          rcases List.mem_cons.mp m with z | z
          · cases z
          · exact a o z, b⟩
  | .sl n :: as, S', S, i, r, hl, nd, h => by
    cases S' with
    | nil => simp at hl
    | cons s S' =>
      by_cases ho : isOwn S[n]? = true
      · simp only [back, ho, if_true] at h
        simp only [loans, ho, if_true] at nd
        obtain ⟨n1, n2⟩ := List.nodup_cons.mp nd
        have hn : n < S.length := by
          rcases Nat.lt_or_ge n S.length with h | h
          · exact h
          · rw [List.getElem?_eq_none h] at ho; cases ho
        have nsl : A.sl n ∉ as := fun m => n1 (mem_loans.mpr ⟨m, ho⟩)
        have ne : ∀ {m : Nat}, A.sl m ∈ as → (S.set n s)[m]? = S[m]? := fun {m} hm => List.getElem?_set_ne fun z => nsl (by rw [z]; exact hm)
        have lo : ∀ {bs : List A}, (∀ m, A.sl m ∈ bs → A.sl m ∈ as) → loans bs (S.set n s) = loans bs S := fun {bs} => by
          induction bs with
          | nil => intro _; rfl
          | cons b bs ih =>
            intro hb
            have ih := ih fun m hm => hb m (List.mem_cons_of_mem _ hm)
            cases b with
            | v r => exact ih
            | sl m => simp only [loans, ne (hb m List.mem_cons_self), ih]
        rcases back_get (as := as) (S' := S') (S := S.set n s) (by simpa using hl) (by rw [lo fun _ h => h]; exact n2) h with ⟨a, j, e1, e2⟩ | ⟨a, b⟩
        · rw [ne (List.mem_of_getElem? e1)] at a
          exact .inl ⟨a, j + 1, by simpa using e1, by simpa using e2⟩
        · by_cases hi : n = i
          · subst hi
            rw [List.getElem?_set_self hn] at b
            cases b
            exact .inl ⟨ho, 0, rfl, rfl⟩
          · rw [List.getElem?_set_ne hi] at a b
            exact .inr ⟨fun o m => by
              rcases List.mem_cons.mp m with z | z
              · cases z; exact hi rfl
              · exact a o z, b⟩
      · simp only [back, ho, Bool.false_eq_true, if_false] at h
        simp only [loans, ho, Bool.false_eq_true, if_false] at nd
        rcases back_get (as := as) (S' := S') (S := S) (by simpa using hl) nd h with ⟨a, j, e1, e2⟩ | ⟨a, b⟩
        · exact .inl ⟨a, j + 1, by simpa using e1, by simpa using e2⟩
        · exact .inr ⟨fun o m => by
            rcases List.mem_cons.mp m with z | z
            · cases z; exact ho o
            · exact a o z, b⟩
theorem back_len : ∀ {as : List A} {S' S : Sl}, (back as S' S).length = S.length
  | [], _, _ => by simp [back]
  | .v x :: as, [], _ => rfl
  | .v x :: as, s :: S', S => back_len (as := as)
  | .sl n :: as, [], _ => rfl
  | .sl n :: as, s :: S', S => by
    simp only [back]
    rw [back_len (as := as)]
    split
    · rw [List.length_set]
    · rfl
/-- a call, seen from the caller -/
theorem call_step' {S' : Sl} (s : Step K fx σ F0 H0 S0 σ F H S) (ra : RAs K H0 σ F H S vs as) (ev : views as S = some os) (nd : (loans as S).Nodup)
    (st : Step K (fun _ => true) (vs.map some) F H (os.map some) (vs.map some) F' H' S') : Step K fx σ F0 H0 S0 σ F' H' (back as S' S) ∧ ∀ v r, RT K H (vs.map some) F' H' S' v r → RT K H0 σ F' H' (back as S' S) v r := by
  have R := s.rel
  have gv : ∀ {i : Nat} {v : V}, (vs.map some)[i]? = some (some v) ↔ vs[i]? = some v := fun {i v} => by
    rw [List.getElem?_map]
    constructor
    · intro h; obtain ⟨u, h1, h2⟩ := Option.map_eq_some_iff.mp h; cases h2; exact h1
    · intro h; rw [h] <;> rfl
  -- what the callee owns at its start
  have ow : ∀ b, Own (vs.map some) (os.map some) b → Own σ S b ∨ H0 b = none := fun b ⟨i, k, e1, e2⟩ => by
    rw [List.getElem?_map] at e1
    obtain ⟨r', hr, e⟩ := Option.map_eq_some_iff.mp e1
    cases e
    have hi : i < os.length := (List.getElem?_eq_some_iff.mp hr).1
    have ha : i < as.length := by rw [← views_len ev]; exact hi
    have e3 := views_get ev (List.getElem?_eq_getElem ha) hr
    have r1 := ra.at_ i _ _ (gv.mp e2) (List.getElem?_eq_getElem ha)
    cases h : as[i] with
    | v z =>
      rw [h] at e3 r1
      simp only [view, Option.some.injEq] at e3
      subst e3
      obtain ⟨_, eb, _, _, _, nw⟩ := r1
      cases eb
      exact .inr nw
    | sl m =>
      rw [h] at e3 r1
      refine .inl ⟨m, k, ?_, r1⟩
      cases q : S[m]? with
      | none => simp [view, q] at e3
      | some z => simp [view, q] at e3; rw [e3]
  have hlS : as.length = S'.length := by
    have h1 := st.rel.len
    rw [List.length_map] at h1
    rw [h1, ra.len]
  -- a slot that owns a cell behind the call owned it ahead
  have own2 : ∀ {i : Nat} {k : C}, (back as S' S)[i]? = some (some (.own k)) → ∃ k', S[i]? = some (some (.own k')) := fun {i k} h => by
    rcases back_get hlS nd h with ⟨a, _⟩ | ⟨_, b⟩
    · exact isOwn_iff.mp a
    · exact ⟨k, b⟩
  have nos : ∀ (i : Nat) (k : C) (b : Addr), (back as S' S)[i]? = some (some (.own k)) → σ[i]? = some (some (.ref b)) → ∃ k0, S[i]? = some (some (.own k0)) ∧ σ[i]? = some (some (.ref b)) := fun i k b e1 e2 => by
    obtain ⟨k', e⟩ := own2 e1
    exact ⟨k', e, e2⟩
  have no : ∀ b, Own σ (back as S' S) b → Own σ S b := fun b ⟨i, k, e1, e2⟩ => by
    obtain ⟨k', e⟩ := own2 e1
    exact ⟨i, k', e, e2⟩
  have rel : Rel K F' H' σ (back as S' S) := by
    refine ⟨st.rel.sub, fun i z h => ?_, fun i j k k' a h1 h2 h3 h4 => ?_, by rw [back_len]; exact R.len⟩
    · rcases back_get hlS nd h with ⟨a, j, e1, e2⟩ | ⟨a, b⟩
      · obtain ⟨w, e3, ro⟩ := st.rel.sl j z e2
        exact ⟨w, ra.at_ j _ _ (gv.mp e3) e1, ro⟩
      · obtain ⟨w, e3, ro⟩ := R.sl i z b
        refine ⟨w, e3, ?_⟩
        cases z with
        | d x => exact RV.mono st.mono ro
        | own k =>
          obtain ⟨p, rfl, f, rc⟩ := ro
          have nc : ¬ Own (vs.map some) (os.map some) p := fun ⟨l, k2, q1, q2⟩ => by
            rw [List.getElem?_map] at q1
            obtain ⟨r', hr, e⟩ := Option.map_eq_some_iff.mp q1
            cases e
            have hi : l < os.length := (List.getElem?_eq_some_iff.mp hr).1
            have ha : l < as.length := by rw [← views_len ev]; exact hi
            have e4 := views_get ev (List.getElem?_eq_getElem ha) hr
            have r1 := ra.at_ l _ _ (gv.mp q2) (List.getElem?_eq_getElem ha)
            cases hh : as[l] with
            | v z =>
              rw [hh] at e4 r1
              simp only [view, Option.some.injEq] at e4
              subst e4
              obtain ⟨_, eb, _, _, nn, _⟩ := r1
              cases eb
              exact nn ⟨i, k, b, e3⟩
            | sl m =>
              rw [hh] at e4 r1
              have em : S[m]? = some (some (.own k2)) := by
                cases q : S[m]? with
                | none => simp [view, q] at e4
                | some z => simp [view, q] at e4; rw [e4]
              have := R.inj i m k k2 p b em e3 r1
              subst this
              exact a (isOwn_iff.mpr ⟨k, b⟩) (List.mem_of_getElem? (by rw [List.getElem?_eq_getElem ha, hh]))
          obtain ⟨o, ho⟩ := rc.any
          refine ⟨p, rfl, ?_, rc.mono st.mono fun o q => st.frame p o q nc⟩
          cases q : F' p with
          | none => rfl
          | some u =>
            rcases st.grow p u q with z | z | z
            · rw [f] at z; cases z
            · rw [ho] at z; cases z
            · exact absurd z nc
    · obtain ⟨k1, e1⟩ := own2 h1
      obtain ⟨k2, e2⟩ := own2 h2
      exact R.inj i j k1 k2 a e1 e2 h3 h4
  refine ⟨⟨rel, s.mono.trans st.mono, fun b o e n => ?_, fun b o e => ?_, fun b o e => ?_, fun i k b e1 e2 => by
    obtain ⟨k0, q1, q2⟩ := nos i k b e1 e2
    exact s.own i k0 b q1 q2, s.fix, s.ln⟩, fun v r h => ?_⟩
  · have h1 := s.frame b o e n
    refine st.frame b o h1 fun q => ?_
    rcases ow b q with z | z
    · rcases s.ownA b z with y | y
      · exact n y
      · rw [e] at y; cases y
    · rw [e] at z; cases z
  · obtain ⟨o', e'⟩ := s.there b o e
    exact st.there b o' e'
  · rcases st.grow b o e with z | z | z
    · exact s.grow b o z
    · exact .inr (.inl (s.non0 z))
    · rcases ow b z with y | y
      · rcases s.ownA b y with x | x
        · exact .inr (.inr x)
        · exact .inr (.inl x)
      · exact .inr (.inl y)
  · cases r with
    | d x => exact h
    | own k =>
      obtain ⟨p, e, f, rc, _, nw⟩ := h
      refine ⟨p, e, f, rc, fun o => ?_, s.non0 nw⟩
      obtain ⟨_, u, hu⟩ := R.own (no p o)
      rw [nw] at hu
      cases hu
end
section
variable {X : Cx} {c : Ct} {k : Nat} {f : Addr} {fd : FuncData} {ps : List Str} {m : Fm} {x : Str} {p pos : Pos} {e : Expr} {es : List Expr} {fs : List (Mn A)}
theorem t_call {E : XK} (hl : fs.length = ps.length) (σ : St) (H : Hp) (Q : VK) (h : T c (callM m fs) σ H Q) : tCall (sp c.K ps.length m) [] E (TAs c fs) σ H Q := by
  obtain ⟨F0, S0, R0, h⟩ := h
  have hh := h
  refine ⟨F0, S0, R0, ?_⟩
  simp only [callM, bnd] at h
  cases e : evs fs S0 with
  | bad => rw [e] at h; exact h
  | exc y S' => rw [e] at h; exact h
  | ok as S1 =>
    rw [e] at h
    simp only at h
    intro vs F1 H1 s1 ra0
    cases ev : views as S1 with
    | none => rw [ev] at h; exact h.elim
    | some os =>
      rw [ev] at h
      simp only at h
      split at h
      · rename_i nd
        have hn : vs.length = ps.length := by rw [ra0.len, evs_len e, hl]
        refine ⟨by rw [List.append_nil]; exact hn, F1, os, by rw [List.append_nil]; exact ra0.rel s1.rel ev nd, ?_⟩
        cases em : m os with
        | bad => rw [em] at h; exact h
        | exc y S' => rw [em] at h; exact h
        | ok r S' =>
          rw [em] at h
          intro v F' H' st rt
          rw [List.append_nil] at st rt
          obtain ⟨st2, rt2⟩ := call_step' s1 ra0 ev nd st
          exact h v F' H' st2 (rt2 v r rt)
      · exact h.elim
end
end FR

namespace FR
open PySem PySem.Spec L2

/-! ### statements -/
inductive Out where
  | nx
  | rt (r : O)
  | bk
  | ct
/-- the state, seen from the start of the def's body -/
abbrev Now (c : Ct) (σ : St) (F H : Hp) (S : Sl) : Prop := Step c.K c.fx c.σ_0 c.F_0 c.H_0 c.S_0 σ F H S
/-- what is wanted behind a statement -/
def Sat (c : Ct) (F : Hp) (D : Ends) : Res Out → Prop
  | .ok .nx S' => ∀ σ' F' H', Now c σ' F' H' S' → Same F F' → D.nx σ' H'
  | .ok .bk S' => ∀ σ' F' H', Now c σ' F' H' S' → Same F F' → D.bk σ' H'
  | .ok .ct S' => ∀ σ' F' H', Now c σ' F' H' S' → Same F F' → D.ct σ' H'
  | .ok (.rt r) S' => ∀ v σ' F' H', Now c σ' F' H' S' → RT c.K c.H_0 σ' F' H' S' v r → D.rt v H'
  | .exc x S' => ∀ σ' F' H' cv dx, Now c σ' F' H' S' → RX c.K c.mg F' H' cv dx x → c.E cv dx H'
  | .bad => False
def tS (c : Ct) (f : Mn Out) : TS := fun D σ H => ∃ F S, Now c σ F H S ∧ Sat c F D (f S)
section
variable {X : Cx} {c : Ct} {e : Expr} {f : Mn A} {pos : Pos} {α β : Type} {RR : RRel α β}
/-- an expression ahead of the rest of a statement -/
theorem Sat.bind {g : Mn α} {h : α → Mn Out} {D : Ends} {σ : St} {F H : Hp} {S : Sl} (n : Now c σ F H S) (q : Sat c F D (bnd g h S)) :
    G c RR g σ H (fun v H2 => ∃ a F2 S2, Now c σ F2 H2 S2 ∧ Step c.K c.fx σ F H S σ F2 H2 S2 ∧ RR H σ F2 H2 S2 v a ∧ Sat c F D (h a S2)) := by
  refine ⟨F, S, n.rel, ?_⟩
  unfold bnd at q
  cases e : g S with
  | bad => rw [e] at q; exact q
  | exc x S' => rw [e] at q; exact fun F' H' cv dx st rx => q σ F' H' cv dx (n.trans st) rx
  | ok a S' => rw [e] at q; exact fun v F' H' st ra => ⟨a, F', S', n.trans st, st, ra, q⟩
/-! blocks -/
@[simp] def seqS (f g : Mn Out) : Mn Out := bnd f fun o => match o with
  | .nx => g
  | o => ret o
@[simp] def nilS : Mn Out := ret .nx
theorem Sat.older {F F1 : Hp} {D : Ends} (m : Same F F1) : ∀ {r : Res Out}, Sat c F D r → Sat c F1 D r
  | .ok .nx S', q => fun σ' F' H' n z => q σ' F' H' n (m.trans z)
  | .ok .bk S', q => fun σ' F' H' n z => q σ' F' H' n (m.trans z)
  | .ok .ct S', q => fun σ' F' H' n z => q σ' F' H' n (m.trans z)
  | .ok (.rt r) S', q => q
  | .exc x S', q => q
  | .bad, q => q
theorem tS.imp {f : Mn Out} {D D' : Ends} {σ : St} {H : Hp} (q : tS c f D σ H) (h1 : ∀ σ F H S, Now c σ F H S → D.nx σ H → D'.nx σ H) (h2 : ∀ v H, D.rt v H → D'.rt v H) (h3 : ∀ σ H, D.bk σ H → D'.bk σ H) (h4 : ∀ σ H, D.ct σ H → D'.ct σ H) : tS c f D' σ H := by
  obtain ⟨F, S, n, q⟩ := q
  refine ⟨F, S, n, ?_⟩
  cases e : f S with
  | bad => rw [e] at q; exact q
  | exc x S' => rw [e] at q; exact q
  | ok o S' =>
    rw [e] at q
    cases o with
    | nx => exact fun σ' F' H' n' z => h1 _ _ _ _ n' (q σ' F' H' n' z)
    | bk => exact fun σ' F' H' n' z => h3 _ _ (q σ' F' H' n' z)
    | ct => exact fun σ' F' H' n' z => h4 _ _ (q σ' F' H' n' z)
    | rt r => exact fun v σ' F' H' n' rt => h2 _ _ (q v σ' F' H' n' rt)
theorem hss_nil : PSs X [] (tS c nilS) := PSs.mono pss_nil fun D σ H q => by
  obtain ⟨F, S, n, q⟩ := q
  exact q σ F H n (Same.refl _)
theorem hss_cons {st : Stmt} {rest : List Stmt} {f g : Mn Out} (h1 : PS X st (tS c f)) (h2 : PSs X rest (tS c g)) : PSs X (st :: rest) (tS c (seqS f g)) := PSs.mono (pss_cons h1 h2) fun D σ H q => by
  obtain ⟨F, S, n, q⟩ := q
  refine ⟨F, S, n, ?_⟩
  simp only [seqS, bnd] at q
  cases e : f S with
  | bad => rw [e] at q; exact q
  | exc x S' => rw [e] at q; exact q
  | ok o S' =>
    rw [e] at q
    cases o with
    | nx => exact fun σ' F' H' n' z => ⟨F', S', n', Sat.older z q⟩
    | bk => exact q
    | ct => exact q
    | rt r => exact q
theorem hss_one {st : Stmt} {f : Mn Out} (h1 : PS X st (tS c f)) : PSs X [st] (tS c f) := pss_one h1
theorem hs_pass : PS X (.Pass pos) (tS c nilS) := PS.mono ps_pass fun D σ H q => by
  obtain ⟨F, S, n, q⟩ := q
  exact q σ F H n (Same.refl _)
theorem hs_break : PS X (.Break pos) (tS c (ret .bk)) := PS.mono ps_break fun D σ H q => by
  obtain ⟨F, S, n, q⟩ := q
  exact q σ F H n (Same.refl _)
theorem hs_continue : PS X (.Continue pos) (tS c (ret .ct)) := PS.mono ps_continue fun D σ H q => by
  obtain ⟨F, S, n, q⟩ := q
  exact q σ F H n (Same.refl _)
/-! an expression alone -/
@[simp] def exprS (f : Mn A) : Mn Out := bnd f fun _ => ret .nx
theorem hs_expr (he : PE X e (T c f)) (hs : swapsWith e none pos.line X.env = pure false := by rfl) : PS X (.Expr e pos) (tS c (exprS f)) := PS.mono (ps_expr he hs) fun D σ H q => by
  obtain ⟨F, S, n, q⟩ := q
  exact G.imp (Sat.bind n q) fun v H1 ⟨a, F1, S1, n1, st, ra, q1⟩ => q1 σ F1 H1 n1 st.mono
/-! return: a slot's own cell goes with it where the slot is no parameter (np parameters) -/
@[simp] def retA (np : Nat) (a : A) : Mn Out := fun S => match a with
  | .v r => .ok (.rt r) S
  | .sl i => match S[i]? with
    | some (some (.d x)) => .ok (.rt (.d x)) S
    | some (some (.own k)) => if i < np then .ok (.rt (.d (fz k))) (S.set i (some (.d (fz k)))) else .ok (.rt (.own k)) (S.set i none)
    | _ => .bad
@[simp] def retS (np : Nat) (f : Mn A) : Mn Out := bnd f (retA np)
theorem Now.drop {σ : St} {F H : Hp} {S : Sl} (n : Now c σ F H S) (i : Nat) : Now c σ F H (S.set i none) := by
  have key : ∀ {j : Nat} {r : O}, (S.set i none)[j]? = some (some r) → S[j]? = some (some r) := fun {j r} h => by
    by_cases hj : i = j
    · subst hj
      rcases Nat.lt_or_ge i S.length with hi | hi
      · rw [List.getElem?_set_self hi] at h; cases h
      · rw [List.getElem?_eq_none (by rw [List.length_set]; exact hi)] at h; cases h
    · rw [List.getElem?_set_ne hj] at h; exact h
  exact ⟨⟨n.rel.sub, fun j r h => n.rel.sl j r (key h), fun j l k k' a h1 h2 => n.rel.inj j l k k' a (key h1) (key h2), by rw [List.length_set]; exact n.rel.len⟩, n.mono, n.frame, n.there, n.grow, fun j k b e1 e2 => n.own j k b (key e1) e2, n.fix, n.ln⟩
theorem hs_ret {np : Nat} (hnp : ∀ (i : Nat) (k : C), np ≤ i → c.S_0[i]? ≠ some (some (.own k))) (he : PE X e (T c f)) : PS X (.Return (some e) pos) (tS c (retS np f)) := PS.mono (ps_ret he) fun D σ H q => by
  obtain ⟨F, S, n, q⟩ := q
  refine G.imp (Sat.bind n q) fun v H1 ⟨a, F1, S1, n1, st, ra, q1⟩ => ?_
  cases a with
  | v r => exact q1 v σ F1 H1 n1 (RT.older ra n)
  | sl i =>
    have ra' : σ[i]? = some (some v) := ra
    simp only [retA] at q1
    cases ei : S1[i]? with
    | none => rw [ei] at q1; exact q1.elim
    | some z =>
      cases z with
      | none => rw [ei] at q1; exact q1.elim
      | some r =>
        cases r with
        | d x =>
          rw [ei] at q1
          obtain ⟨u, e1, ro⟩ := n1.rel.sl i _ ei
          rw [ra'] at e1
          cases e1
          exact q1 v σ F1 H1 n1 ro
        | own k =>
          rw [ei] at q1
          simp only at q1
          split at q1
          · obtain ⟨F', st', rv, _⟩ := Step.freeze (fx := c.fx) n1.rel ei ra'
            exact q1 v σ F' H1 (n1.trans st') rv
          · rename_i hnl
            obtain ⟨u, e1, p, e2, f, rc⟩ := n1.rel.sl i _ ei
            rw [ra'] at e1
            cases e1
            subst e2
            have hi : i < S1.length := by
              rcases Nat.lt_or_ge i S1.length with h | h
              · exact h
              · rw [List.getElem?_eq_none h] at ei; cases ei
            refine q1 _ σ F1 H1 (n1.drop i) ⟨p, rfl, f, rc, fun ⟨j, k', q1, q2⟩ => ?_, ?_⟩
            · by_cases hj : i = j
              · subst hj
                rw [List.getElem?_set_self hi] at q1
                cases q1
              · rw [List.getElem?_set_ne hj] at q1
                exact hj (n1.rel.inj i j k k' p ei q1 ra' q2)
            · rcases n1.own i k p ei ra' with ⟨k0, q, _⟩ | q
              · exact absurd q (hnp i k0 (Nat.le_of_not_lt hnl))
              · exact q
@[simp] def retN : Mn Out := ret (.rt (.d .non))
theorem hs_retN : PS X (.Return none pos) (tS c retN) := PS.mono ps_retN fun D σ H q => by
  obtain ⟨F, S, n, q⟩ := q
  exact q .non σ F H n .non
/-! if -/
@[simp] def ifS (p : Mn Bool) (f g : Mn Out) : Mn Out := bnd p fun b => match b with
  | true => f
  | false => g
theorem hs_if {t : Expr} {a b : List Stmt} {p : Mn Bool} {f g : Mn Out} (hc : PT X t (TB c p)) (ha : PSs X a (tS c f)) (hb : PSs X b (tS c g)) : PS X (.If t a b pos) (tS c (ifS p f g)) := PS.mono (ps_if hc ha hb) fun D σ H q => by
  obtain ⟨F, S, n, q⟩ := q
  refine G.imp (Sat.bind (RR := fun _ _ _ _ _ (w : Bool) (b : Bool) => w = b) n q) fun v H1 ⟨a, F1, S1, n1, st, ra, q1⟩ => ?_
  cases ra
  cases v with
  | true => exact iteT ⟨F1, S1, n1, q1.older st.mono⟩
  | false => exact iteF ⟨F1, S1, n1, q1.older st.mono⟩
/-! targets -/
/-- a target: v, of which r is told, is laid there -/
def tG (c : Ct) (g : O → Mn Unit) : TG := fun v σ H Q => ∃ F S r, Now c σ F H S ∧ RT c.K c.H_0 σ F H S v r ∧ match g r S with
  | .ok _ S' => ∀ σ' F' H', Now c σ' F' H' S' → Same F F' → Q σ' H'
  | .exc x S' => ∀ σ' F' H' cv dx, Now c σ' F' H' S' → RX c.K c.mg F' H' cv dx x → c.E cv dx H'
  | .bad => False
def tGs (c : Ct) (g : List D → Mn Unit) : TGs := fun vs σ H Q => ∃ F S ds, Now c σ F H S ∧ RVs c.K F vs ds ∧ match g ds S with
  | .ok _ S' => ∀ σ' F' H', Now c σ' F' H' S' → Same F F' → Q σ' H'
  | .exc x S' => ∀ σ' F' H' cv dx, Now c σ' F' H' S' → RX c.K c.mg F' H' cv dx x → c.E cv dx H'
  | .bad => False
@[simp] def gN (i : Nat) (r : O) : Mn Unit := fun S => .ok () (S.set i (some r))
theorem Now.store {σ : St} {F H : Hp} {S : Sl} {v : V} {r : O} (n : Now c σ F H S) (rt : RT c.K c.H_0 σ F H S v r) (i : Nat) (hf : c.fx i = false) : Now c (σ.set i (some v)) F H (S.set i (some r)) := by
  have hl := n.rel.len
  have sl : ∀ {j : Nat} {q : O}, (S.set i (some r))[j]? = some (some q) → (i = j ∧ q = r ∧ (σ.set i (some v))[j]? = some (some v)) ∨ (i ≠ j ∧ S[j]? = some (some q) ∧ (σ.set i (some v))[j]? = σ[j]?) := fun {j q} h => by
    by_cases hj : i = j
    · subst hj
      rcases Nat.lt_or_ge i S.length with hi | hi
      · rw [List.getElem?_set_self hi] at h
        cases h
        exact .inl ⟨rfl, rfl, by rw [List.getElem?_set_self (by omega)]⟩
      · rw [List.getElem?_eq_none (by rw [List.length_set]; exact hi)] at h; cases h
    · rw [List.getElem?_set_ne hj] at h
      exact .inr ⟨hj, h, List.getElem?_set_ne hj⟩
  refine ⟨⟨n.rel.sub, fun j q h => ?_, fun j l k k' a h1 h2 h3 h4 => ?_, by rw [List.length_set, List.length_set]; exact hl⟩, n.mono, n.frame, n.there, n.grow, fun j k b e1 e2 => ?_, fun j h => ?_, by rw [List.length_set]; exact n.ln⟩
  · rcases sl h with ⟨_, rfl, e⟩ | ⟨_, e1, e⟩
    · exact ⟨v, e, rt.ro⟩
    · rw [e]; exact n.rel.sl j q e1
  · rcases sl h1 with ⟨rfl, e0, e⟩ | ⟨hj, e1, e⟩
    · rcases sl h2 with ⟨hl', _, _⟩ | ⟨hl', e2, e'⟩
      · exact hl'
      · rw [e] at h3
        rw [e'] at h4
        cases h3
        subst e0
        obtain ⟨p, ep, _, _, no, _⟩ := rt
        cases ep
        exact absurd ⟨l, k', e2, h4⟩ no
    · rcases sl h2 with ⟨rfl, e0, e'⟩ | ⟨hl', e2, e'⟩
      · rw [e] at h3
        rw [e'] at h4
        cases h4
        subst e0
        obtain ⟨p, ep, _, _, no, _⟩ := rt
        cases ep
        exact absurd ⟨j, k, e1, h3⟩ no
      · rw [e] at h3
        rw [e'] at h4
        exact n.rel.inj j l k k' a e1 e2 h3 h4
  · rcases sl e1 with ⟨rfl, e0, e⟩ | ⟨hj, e3, e⟩
    · rw [e] at e2
      cases e2
      subst e0
      obtain ⟨p, ep, _, _, _, nw⟩ := rt
      cases ep
      exact .inr nw
    · rw [e] at e2
      exact n.own j k b e3 e2
  · have hj : i ≠ j := fun z => by subst z; rw [hf] at h; cases h
    rw [List.getElem?_set_ne hj]
    exact n.fix j h
theorem hg_name {i : Nat} {x : Str} (hN : X.N.Nodup) (hi : X.N[i]? = some x) (hx : Loc X.env.scope x) (hf : c.fx i = false := by rfl) (hl : X.fn x = true ∨ X.env.scope.names.lookup x = some .local := by first | exact .inl rfl | exact .inr rfl | assumption) : PG X (.Name x pos) (tG c (gN i)) :=
  PG.mono (pg_name hN hi hx hl) fun v σ H Q q => by
    obtain ⟨F, S, r, n, rt, q⟩ := q
    exact q _ F H (n.store rt i hf) (Same.refl _)
@[simp] def gsN (d : List D) : Mn Unit := fun S => match d with
  | [] => .ok () S
  | _ => .bad
@[simp] def gsC (g : O → Mn Unit) (h : List D → Mn Unit) (d : List D) : Mn Unit := match d with
  | x :: xs => bnd (g (.d x)) fun _ => h xs
  | [] => fun _ => .bad
theorem hgs_nil : PGs X [] (tGs c gsN) := ⟨fun pins s σ H vs us Q I r q => pgs_nil.run pins s σ H vs us Q I r (by
  obtain ⟨F, S, ds, n, rv, q⟩ := q
  cases ds with
  | nil => cases rv; exact ⟨rfl, q σ F H n (Same.refl _)⟩
  | cons d ds => exact q.elim)⟩
theorem hgs_cons {e : Expr} {es : List Expr} {g : O → Mn Unit} {h : List D → Mn Unit} (h1 : PG X e (tG c g)) (h2 : PGs X es (tGs c h)) (hs : (assignEach (e :: es) X.env).map (·.2) = assign e X.env :: (assignEach es X.env).map (·.2) := by rfl) : PGs X (e :: es) (tGs c (gsC g h)) :=
  ⟨fun pins s σ H vs us Q I r q => (pgs_cons h1 h2 hs).run pins s σ H vs us Q I r (by
    obtain ⟨F, S, ds, n, rv, q⟩ := q
    cases rv with
    | nil => exact q.elim
    | @cons v d vs ds rv rvs =>
      refine ⟨v, vs, rfl, F, S, .d d, n, rv, ?_⟩
      simp only [gsC, bnd] at q
      cases e : g (.d d) S with
      | bad => rw [e] at q; exact q
      | exc x S' => rw [e] at q; exact q
      | ok u S' =>
        rw [e] at q
        intro σ' F' H' n' z
        refine ⟨F', S', ds, n', rvs.mono z, ?_⟩
        simp only at q
        cases e2 : h ds S' with
        | bad => rw [e2] at q; exact q
        | exc x S2 => rw [e2] at q; exact q
        | ok u2 S2 => rw [e2] at q; exact fun σ2 F2 H2 n2 z2 => q σ2 F2 H2 n2 (z.trans z2))⟩
theorem PG.or {X : Cx} {e : Expr} {t t' : TG} (h : PG X e t) (h' : PG X e t') : PG X e (fun v σ H Q => t v σ H Q ∨ t' v σ H Q) := ⟨fun pins s σ H v u Q I r q => q.elim (h.run pins s σ H v u Q I r) (h'.run pins s σ H v u Q I r)⟩
theorem PS.or {X : Cx} {e : Stmt} {t t' : TS} (h : PS X e t) (h' : PS X e t') : PS X e (fun D σ H => t D σ H ∨ t' D σ H) := ⟨fun pins s σ H D I q => q.elim (h.run pins s σ H D I) (h'.run pins s σ H D I)⟩
/-- a, b, .. = a tuple or a list of so many -/
@[simp] def gT (n : Nat) (g : List D → Mn Unit) (r : O) : Mn Unit := fun S => match oLT r with
  | some ds => if ds.length = n then g ds S else .bad
  | none => .bad
theorem hg_tup {es : List Expr} {k : Nat} {g : List D → Mn Unit} {n : Nat} (hK : c.K = X.K) (hc : X.calm = true) (h : PGs X es (tGs c g)) (hn : (assignEach es X.env).length = n := by rfl) (hst : (assignEach es X.env).findIdx? (·.1) = none := by rfl) : PG X (.Tuple es k pos) (tG c (gT n g)) :=
  PG.mono (PG.or (pg_tup hc h hn hst) (pg_unl hc h hn hst)) fun v σ H Q q => by
    obtain ⟨F, S, r, nw, rt, q⟩ := q
    have ro := rt.ro
    simp only [gT] at q
    cases eo : oLT r with
    | none => rw [eo] at q; exact q.elim
    | some ds =>
      rw [eo] at q
      simp only at q
      by_cases hl : ds.length = n
      · rw [if_pos hl] at q
        obtain ⟨a, vs, rfl, hq, rv⟩ := ro.seqLT nw.rel.sub eo
        have hvl : vs.length = n := by rw [rv.length]; exact hl
        rcases hq with hq | hq
        · exact .inr ⟨a, vs, rfl, hK ▸ hq, hvl, F, S, ds, nw, rv, q⟩
        · exact .inl ⟨a, vs, rfl, hK ▸ hq, hvl, F, S, ds, nw, rv, q⟩
      · rw [if_neg hl] at q
        exact q.elim
/-! name = e, (a, b) = e -/
@[simp] def asgS (g : O → Mn Unit) (f : Mn A) : Mn Out := bnd (vl f) fun a => match a with
  | .v r => bnd (g r) fun _ => ret .nx
  | .sl _ => fun _ => .bad
theorem t_asg {g : O → Mn Unit} {D : Ends} {σ : St} {H : Hp} (q : tS c (asgS g f) D σ H) : tAsg (T c f) (tG c g) D σ H := by
  obtain ⟨F, S, n, q⟩ := q
  refine t_vl σ H _ (G.imp (Sat.bind n q) fun v H1 ⟨a, F1, S1, n1, st, ra, q1⟩ => ?_)
  cases a with
  | sl i => exact q1.elim
  | v r =>
    refine ⟨F1, S1, r, n1, RT.older ra n, ?_⟩
    simp only [bnd] at q1
    cases e : g r S1 with
    | bad => rw [e] at q1; exact q1
    | exc x S' => rw [e] at q1; exact q1
    | ok u S' => rw [e] at q1; exact fun σ' F' H' n' z => q1 σ' F' H' n' (st.mono.trans z)
theorem hs_set {i : Nat} {x : Str} {pos' : Pos} (hN : X.N.Nodup) (hi : X.N[i]? = some x) (hx : Loc X.env.scope x) (he : PE X e (T c f)) (hs : swapsWith e (some (.Name x pos')) pos.line X.env = pure false := by rfl) (hf : c.fx i = false := by rfl) (hl : X.fn x = true ∨ X.env.scope.names.lookup x = some .local := by first | exact .inl rfl | exact .inr rfl | assumption) :
    PS X (.Assign [.Name x pos'] e pos) (tS c (asgS (gN i) f)) := PS.mono (ps_set hN hi hx he hs hl) fun D σ H q => by
  obtain ⟨F, S, n, q⟩ := q
  refine t_vl σ H _ (G.imp (Sat.bind n q) fun v H1 ⟨a, F1, S1, n1, st, ra, q1⟩ => ?_)
  cases a with
  | sl i => exact q1.elim
  | v r => exact q1 _ F1 H1 (n1.store (RT.older ra n) i hf) st.mono
theorem hs_asg {tg : Expr} {g : O → Mn Unit} (he : PE X e (T c f)) (hg : PG X tg (tG c g)) (hs : swapsWithSole [tg] e pos.line X.env = pure false := by rfl) (hw : swappedStores [tg] e X.env = pure none := by rfl)
    (h1 : (assignEach [tg] X.env).map (·.2) = [assign tg X.env] := by rfl) : PS X (.Assign [tg] e pos) (tS c (asgS g f)) := PS.mono (ps_asg he hg hs hw h1) fun D σ H q => t_asg q
end
end FR

namespace FR
open PySem PySem.Spec L2

/-! ### a def's body -/
@[simp] def maskS (fx : Nat → Bool) : Nat → Sl → Sl
  | _, [] => []
  | i, s :: r => (if fx i then s else none) :: maskS fx (i + 1) r
theorem maskS_len {fx : Nat → Bool} : ∀ {i : Nat} {S : Sl}, (maskS fx i S).length = S.length
  | _, [] => rfl
  | i, s :: r => by rw [maskS, List.length_cons, List.length_cons, maskS_len]
theorem maskS_get {fx : Nat → Bool} {q : O} : ∀ {i : Nat} {S : Sl} {j : Nat}, (maskS fx i S)[j]? = some (some q) → fx (i + j) = true ∧ S[j]? = some (some q)
  | _, [], j, h => by simp at h
  | i, s :: r, 0, h => by
    rw [maskS] at h
    by_cases hf : fx i = true
    · rw [if_pos hf] at h; exact ⟨hf, by simpa using h⟩
    · rw [if_neg hf] at h; simp at h
  | i, s :: r, j + 1, h => by
    rw [maskS] at h
    have := maskS_get (i := i + 1) (S := r) (j := j) (by simpa using h)
    exact ⟨by rw [show i + (j + 1) = i + 1 + j by omega]; exact this.1, by simpa using this.2⟩
/-- the slots at the start -/
@[simp] def slots (N : Nat) (os : List O) : Sl := os.map some ++ List.replicate (N - os.length) none
/-- what a body is as a function of its arguments: N names, n parameters -/
def fm (N n : Nat) (fx : Nat → Bool) (b : Mn Out) : Fm := fun os => match b (slots N os) with
  | .ok (.rt r) S' => .ok r (maskS fx 0 (S'.take n))
  | .ok .nx S' => .ok (.d .non) (maskS fx 0 (S'.take n))
  | _ => .bad
section
variable {P : Program} {w : World} {K : PySem.W.Frag} {mg : Str → Option Value} {base : Heap}
theorem slots_get {N : Nat} {os : List O} {i : Nat} {r : O} (h : (slots N os)[i]? = some (some r)) : i < os.length ∧ (os.map some)[i]? = some (some r) := by
  unfold slots at h
  by_cases hi : i < os.length
  · rw [List.getElem?_append_left (by rw [List.length_map]; exact hi)] at h
    exact ⟨hi, h⟩
  · rw [List.getElem?_append_right (by rw [List.length_map]; omega), List.getElem?_replicate] at h
    split at h <;> cases h
theorem start_get {N : List Str} {vs : List V} {i : Nat} (h : i < vs.length) : (start N vs)[i]? = (vs.map some)[i]? := by
  unfold L2.start
  rw [List.getElem?_append_left (by rw [List.length_map]; exact h)]
theorem rel_start {N : List Str} {F H : Hp} {vs : List V} {os : List O} (hN : vs.length ≤ N.length) (R : Rel K F H (vs.map some) (os.map some)) : Rel K F H (start N vs) (slots N.length os) := by
  have hl : os.length = vs.length := by have := R.len; simpa using this
  refine ⟨R.sub, fun i r h => ?_, fun i j k k' a h1 h2 h3 h4 => ?_, ?_⟩
  · obtain ⟨hi, e⟩ := slots_get h
    obtain ⟨v, e1, ro⟩ := R.sl i r e
    exact ⟨v, by rw [start_get (by omega)]; exact e1, ro⟩
  · obtain ⟨hi, e1⟩ := slots_get h1
    obtain ⟨hj, e2⟩ := slots_get h2
    rw [start_get (by omega)] at h3 h4
    exact R.inj i j k k' a e1 e2 h3 h4
  · unfold slots L2.start
    simp only [List.length_append, List.length_map, List.length_replicate]
    omega
/-- from the whole body to what the caller sees -/
theorem step_out {N : List Str} {n : Nat} {fx : Nat → Bool} {F H F' H' : Hp} {vs : List V} {os : List O} {σ' : St} {S' : Sl} (hn : vs.length = n) (hN : n ≤ N.length) (R : Rel K F H (vs.map some) (os.map some)) (st : Step K fx (start N vs) F H (slots N.length os) σ' F' H' S') :
    Step K (fun _ => true) (vs.map some) F H (os.map some) (vs.map some) F' H' (maskS fx 0 (S'.take n)) ∧ ∀ v r, RT K H σ' F' H' S' v r → RT K H (vs.map some) F' H' (maskS fx 0 (S'.take n)) v r := by
  have hl : os.length = vs.length := by have := R.len; simpa using this
  have R0 := rel_start (N := N) (by omega) R
  have sl : ∀ {i : Nat} {r : O}, (maskS fx 0 (S'.take n))[i]? = some (some r) → i < n ∧ S'[i]? = some (some r) ∧ σ'[i]? = (vs.map some)[i]? := fun {i r} h => by
    obtain ⟨h1, h2⟩ := maskS_get h
    have hi : i < n := by
      rcases Nat.lt_or_ge i n with hi | hi
      · exact hi
      · rw [List.getElem?_eq_none (by rw [List.length_take]; omega)] at h2; cases h2
    rw [List.getElem?_take_of_lt hi] at h2
    rw [Nat.zero_add] at h1
    exact ⟨hi, h2, by rw [st.fix i h1, start_get (by omega)]⟩
  have own0 : ∀ b, Own (start N vs) (slots N.length os) b → Own (vs.map some) (os.map some) b := fun b ⟨i, k, e1, e2⟩ => by
    obtain ⟨hi, e⟩ := slots_get e1
    rw [start_get (by omega)] at e2
    exact ⟨i, k, e, e2⟩
  have no : ∀ b, Own (vs.map some) (maskS fx 0 (S'.take n)) b → Own σ' S' b := fun b ⟨i, k, e1, e2⟩ => by
    obtain ⟨_, h2, h3⟩ := sl e1
    exact ⟨i, k, h2, by rw [h3]; exact e2⟩
  refine ⟨⟨⟨st.rel.sub, fun i r h => ?_, fun i j k k' a h1 h2 h3 h4 => ?_, ?_⟩, st.mono, fun b o e m => st.frame b o e fun q => m (own0 b q), st.there, fun b o e => ?_, fun i k b e1 e2 => ?_, fun _ _ => rfl, rfl⟩, fun v r h => ?_⟩
  · obtain ⟨hi, h2, h3⟩ := sl h
    obtain ⟨v, e1, ro⟩ := st.rel.sl i r h2
    exact ⟨v, by rw [← h3]; exact e1, ro⟩
  · obtain ⟨_, a1, a2⟩ := sl h1
    obtain ⟨_, b1, b2⟩ := sl h2
    exact st.rel.inj i j k k' a a1 b1 (by rw [a2]; exact h3) (by rw [b2]; exact h4)
  · rw [maskS_len, List.length_take, List.length_map]
    have h1 := st.rel.len
    have h2 := R0.len
    -- σ' has as many slots as there are names
    have h3 : n ≤ S'.length := by
      rw [h1, st.ln]
      unfold L2.start
      simp only [List.length_append, List.length_map, List.length_replicate]
      omega
    omega
  · rcases st.grow b o e with z | z | z
    · exact .inl z
    · exact .inr (.inl z)
    · exact .inr (.inr (own0 b z))
  · obtain ⟨hi, h2, h3⟩ := sl e1
    rcases st.own i k b h2 (by rw [h3]; exact e2) with ⟨k0, q1, q2⟩ | q
    · obtain ⟨_, e⟩ := slots_get q1
      exact .inl ⟨k0, e, e2⟩
    · exact .inr q
  · cases r with
    | d x => exact h
    | own k => obtain ⟨p, e, f, rc, nn, nw⟩ := h; exact ⟨p, e, f, rc, fun o => nn (no p o), nw⟩
/-- THE RULE for a def: its body as a functional reading -/
theorem ok_def {x qual : Str} {st : Stmt} {f : Addr} {fd : FuncData} {N ps : List Str} {k : Nat} (F : FunD K x qual (defArgs st) (defBody st) (defScope st) [] [] f fd) (S : FnScope N ps (defScope st)) (fx : Nat → Bool) (b : Mn Out) (hN : ps.length ≤ N.length)
    (hb : ∀ (cdv : Value) (A : Around) (outer : List Env) (s : Shared) (H : Hp) (vs : List V) (E : XK) (F0 : Hp) (S0 : Sl), Room k (A.deeper (PyProof.Rows.envOfC qual (defScope st) s.heap.objs.size f cdv)) → (∀ (i : Nat) (k : C), ps.length ≤ i → S0[i]? ≠ some (some (.own k))) →
      PSs (cxOf CX0 P w K mg base N qual (defScope st) f cdv A outer s H E).nox (defBody st) (tS ⟨K, mg, fx, E0, start N vs, F0, H, S0⟩ b)) : FnOk P w K mg base CX0 (k + 1) f fd ps (sp K ps.length (fm N.length ps.length fx b)) := by
  refine F.ok S (fun vs H Q E h => h.1) (fun cdv A outer s H vs Q E hr h => ?_)
  obtain ⟨hn, F0, os, R, h⟩ := h
  have hl : os.length = vs.length := by have := R.len; simpa using this
  refine ⟨_, PSs.nox (hb cdv A outer s H vs E F0 (slots N.length os) hr fun i k' hi e => ?_), F0, slots N.length os, Step.refl (rel_start (by omega) R), ?_⟩
  · obtain ⟨h1, _⟩ := slots_get e
    omega
  · unfold fm at h
    cases e : b (slots N.length os) with
    | bad => rw [e] at h; exact h
    | exc y S' => rw [e] at h; exact h.elim
    | ok o S' =>
      rw [e] at h
      cases o with
      | nx =>
        intro σ' F' H' n' _
        obtain ⟨st, rt⟩ := step_out hn hN R n'
        exact h .non F' H' st .non
      | rt r =>
        intro v σ' F' H' n' hrt
        obtain ⟨st, rt⟩ := step_out hn hN R n'
        exact h v F' H' st (rt v r hrt)
      | bk => exact h.elim
      | ct => exact h.elim
end
end FR

/-! enumerate of a tuple, over the library's draws -/
namespace PySem
open Sem (wp)
open AutoSeq1 (wpAny_loadPart')
theorem enumT_new (l : Addr) (items : Array Value) (n : Nat) (dct : Option Addr) (sl : Array (Option Value)) :
    Meets (Builtin.«enumerate.__new__» ⟨[.type "enumerate", .ref l], []⟩) (fun _ Z s => s.heap.get? l = some { cls := .type "tuple", dict := dct, data := .seq items n, slots := sl } ∧
      Z (.ok (.ret (.ref (s.heap.push { cls := .type "tuple_iterator", data := .fields #[.ref l, .int 0 0] }).objs.size)))
        { s with heap := (s.heap.push { cls := .type "tuple_iterator", data := .fields #[.ref l, .int 0 0] }).push { cls := .type "enumerate", data := .fields #[.none, .bool false, .ref s.heap.objs.size, rawInt 0, .none, .none] } }) :=
  .of_wp fun prog w A Z s h => by
    obtain ⟨hp, g, d, tk, os⟩ := s
    obtain ⟨hl, h⟩ := h
    have hsub := sub_enumerate
    have hT : Heap.IsTuple (Shared.heap ⟨hp, g, d, tk, os⟩) l items := ⟨_, hl, rfl, n, rfl⟩
    wp_walk using wpAny_loadPart' hl
    refine wpAny_stack_any fun st => wpAny_pure ?_
    split
    · rename_i c _ _ _ _ _
      cases (c == Value.type "enumerate")
      · wp_walk using wpAny_loadPart' hl, wpAny_pyIter_tuple hT
        exact ⟨_, rfl, h⟩
      · wp_walk using wpAny_loadPart' hl, wpAny_pyIter_tuple hT
        exact ⟨_, rfl, h⟩
    · wp_walk using wpAny_loadPart' hl, wpAny_pyIter_tuple hT
      exact ⟨_, rfl, h⟩
section
variable {prog : Program} {w : World} {A : Around} {E : Value → Shared → Prop} {s : Shared}
theorem call_enumT {l : Addr} {items : Array Value} {Q : Value → Shared → Prop} (hL : s.heap.IsTuple l items)
    (h : ∀ h', IsEnum h' (s.heap.objs.size + 1) s.heap.objs.size 0 .none → h'.IsTupleIter s.heap.objs.size l 0 → (∀ b o, s.heap.get? b = some o → h'.get? b = some o) → Q (.ref (s.heap.objs.size + 1)) { s with heap := h' }) :
    wpAny (model prog w) A (call (.type "enumerate") [.ref l]) Q E s := by
  obtain ⟨⟨c, dct, dt, sl⟩, hl, hc, n, hd⟩ := hL
  replace hc : c = .type "tuple" := hc
  replace hd : dt = .seq items n := hd
  subst hc hd
  have z1 : (s.heap.push { cls := .type "tuple_iterator", data := .fields #[.ref l, .int 0 0] }).objs.size = s.heap.objs.size + 1 := Heap.size_push ..
  refine callType_new F.called_enumerate (by decide) (F.typeCall_enumerate_1 _) (F.newCall_enumerate_1 _) (fun obj => F.args_object_init_2 obj _) F.entry_enumerate_new (enumT_new l items n dct sl) ⟨hl, ?_⟩
  show _ ∧ _
  rw [z1]
  have e1 : IsEnum ((s.heap.push { cls := .type "tuple_iterator", data := .fields #[.ref l, .int 0 0] }).push { cls := .type "enumerate", data := .fields #[.none, .bool false, .ref s.heap.objs.size, rawInt 0, .none, .none] }) (s.heap.objs.size + 1) s.heap.objs.size 0 .none := by
    have q := Heap.get?_push_size (s.heap.push { cls := .type "tuple_iterator", data := .fields #[.ref l, .int 0 0] }) (o := { cls := .type "enumerate", data := .fields #[.none, .bool false, .ref s.heap.objs.size, rawInt 0, .none, .none] }) rfl
    rw [z1] at q
    exact q
  exact ⟨⟨_, e1, rfl⟩, h _ e1 ⟨_, Heap.get?_push_of_some _ (Heap.get?_push_size _ rfl), rfl, rfl⟩ fun b o x => Heap.get?_push_of_some _ (Heap.get?_push_of_some _ x)⟩
end
end PySem
namespace FR
open PySem PySem.Spec L2
/-- a tuple's items, each in a new pair with its number -/
def IteT (K : PySem.W.Frag) (a : Addr) : It :=
  ⟨fun i H => ∃ (xs : List V) (x : V), SqT K H a xs ∧ xs[i]? = some x, fun i H v H' => ∃ T x, v = .ref T ∧ H T = none ∧ H' = upd H T (.tup [.int (i : Nat), x]) ∧ ∀ xs, SqT K H a xs → xs[i]? = some x, fun i H => ∃ xs : List V, SqT K H a xs ∧ xs.length = i⟩
theorem turn_enumT {P : Program} {w : World} {K : PySem.W.Frag} {elts : List Expr} {kk : Nat} {tpos : Pos} (a e it : Addr) (hae : a ≠ e) (hai : a ≠ it) :
    Turn P w K (.Tuple elts kk tpos) (IteT K a) [e, it] e (fun i h => (∃ old, IsEnum h e it ((i : Nat) : Int) old) ∧ h.IsTupleIter it a i ∧ e ≠ it) where
  mem := by simp
  obj := fun i h st b hb => by
    obtain ⟨⟨old, he⟩, ⟨o, ho, hc, hd⟩, _⟩ := st
    have e' : b = e ∨ b = it := by simpa using hb
    rcases e' with z | z
    · rw [z]; exact ⟨_, he, fun v q => nomatch q⟩
    · rw [z]; exact ⟨o, ho, fun v q => by rw [hd] at q; cases q⟩
  keep := fun i h h' st k => let ⟨⟨old, he⟩, hi, hne⟩ := st; ⟨⟨old, k e (by simp) _ he⟩, hi.at fun o q => k it (by simp) o q, hne⟩
  item := by
    intro X hP hw hK hc i pins s σ H E I hf st hg
    subst hP hw hK
    obtain ⟨⟨old, he⟩, hit, hne⟩ := st
    obtain ⟨xs, x, hq, hx⟩ := hg
    obtain ⟨its, rv, p, hz⟩ := I.tuple hq
    obtain ⟨u, hu, ru⟩ := rv.get hx
    have hel : e < s.heap.objs.size := Heap.lt_size he
    have hil : it < s.heap.objs.size := by obtain ⟨_, q, _⟩ := hit; exact Heap.lt_size q
    have hlt : i < its.toArray.size := by
      rw [List.size_toArray]
      exact (List.getElem?_eq_some_iff.mp hu).1
    have dr : Draws X.prog X.w X.A.in1 it [it, a] its.toArray.size (fun i v => its.toArray[i]? = some v) (fun i h => h.IsTupleIter it a i ∧ h.IsTuple a its.toArray) := Draws.tuple (show X.A.in1.handled = none from I.ok.hd hc) it a hai its.toArray
    refine wpAny_pyNext_enum_itemD dr he ⟨hit, p⟩ hlt hne (by simp; exact ⟨hne, Ne.symm hae⟩) fun y h' tk hy ho hit' hT hsz hk => ?_
    have ey : y = u := by
      have h1 : its.toArray[i]? = some u := by simpa using hu
      rw [h1] at hy
      cases hy
      rfl
    subst ey
    refine ⟨_, rfl, wpAny_letOwnedTupleGo_enum (s := { s with heap := h', toks := tk + 1 }) ho fun h'' he' sb => ?_⟩
    have hT2 : h''.get? s.heap.objs.size = some { cls := .type "tuple", data := .seq #[.int i tk, y] } := (sb.2 _ (Nat.ne_of_gt hel)).trans hT
    have new : ObjOk X.prog X.w (upd H s.heap.objs.size (.tup [.int (i : Nat), x])) h'' s.heap.objs.size (.tup [.int (i : Nat), x]) :=
      ⟨by show 2 ≤ sizeLine; decide, [.int i tk, y], .cons ⟨_, rfl⟩ (.cons ru .nil), ⟨_, hT2, rfl, _, rfl⟩⟩
    have I1 : L2.Inv X pins σ (upd H s.heap.objs.size (.tup [.int (i : Nat), x])) { s with heap := h'', toks := tk + 1 } :=
      I.turnedNew (ch := [e, it]) (fun b ob hb q => (sb.2 b (fun z => hb (by simp [z]))).trans (hk b ob (fun z => hb (by simp [z])) (fun z => hb (by simp [z])) q)) hf (Nat.le_refl _) new
    refine ⟨.ref s.heap.objs.size, _, I1, rfl, ⟨_, x, rfl, I.hok.fresh (Nat.le_refl _), rfl, fun ys hy => by rw [I.tuple_inj hy hq]; exact hx⟩, ⟨⟨y, ?_⟩, hit'.1.at fun o q => (sb.2 it (Ne.symm hne)).trans q, hne⟩, fun b hb => ?_⟩
    · have e1 : ((i + 1 : Nat) : Int) = (i : Int) + 1 := by omega
      rw [e1]; exact he'
    · have hb' : b < s.heap.objs.size := by
        have e' : b = e ∨ b = it := by simpa using hb
        rcases e' with z | z
        · rw [z]; exact hel
        · rw [z]; exact hil
      rw [upd_ne (Nat.ne_of_lt hb')]
      exact (hf b hb).1
  done := by
    intro X hP hw hK hc i pins s σ H E I hf st hg
    subst hP hw hK
    obtain ⟨⟨old, he⟩, hit, hne⟩ := st
    obtain ⟨xs, hq, hx⟩ := hg
    obtain ⟨its, rv, p, hz⟩ := I.tuple hq
    obtain ⟨f0, f1, f2, f3, f4, f5⟩ := hf it (by simp)
    have hl := rv.length
    have hn : its.toArray.size = i := by rw [List.size_toArray]; omega
    have dr : Draws X.prog X.w X.A.in1 it [it, a] its.toArray.size (fun i v => its.toArray[i]? = some v) (fun i h => h.IsTupleIter it a i ∧ h.IsTuple a its.toArray) := Draws.tuple (show X.A.in1.handled = none from I.ok.hd hc) it a hai its.toArray
    exact wpAny_pyNext_enum_endD dr he (by rw [hn]; exact ⟨hit, p⟩) fun h' eb => ⟨rfl, I.turned (t' := s.toks) (fun b o hb q => eb b o hb q) f0 f1 f3 f4 f5⟩
  self := fun A i s Q E st h => let ⟨⟨_, he⟩, _⟩ := st; wpAny_pyIter_enum he h
def iEnumA (K : PySem.W.Frag) (ta : TA) : TI := fun σ H Z => ta σ H fun vs H1 => ∃ a xs, vs = [.ref a] ∧ SqT K H1 a xs ∧ Z (IteT K a) H1
theorem pi_enumT {X : Cx} {e : Expr} {ta : TA} {p pos tpos : Pos} {elts : List Expr} {kk : Nat} (hg : Gl X "enumerate") (hm : X.mg "enumerate" = none) (ha : PA X [e] ta) (hs : starEach [e] X.env = [(false, eval e X.env)] := by rfl) :
    PI X (.Tuple elts kk tpos) (.Call (.Name "enumerate" p) [e] [] pos) (iEnumA X.K ta) := by
  refine ⟨fun pins s σ H Z I h => ?_⟩
  refine PyProof.Rows.Call_ (ld_blt I hg hm PyProof.Rows.boot_enumerate (PyProof.Rows.callWith_type1 (thn (ha.run pos pins s σ H _ I h) fun us s1 ⟨vs, H1, I1, r1, q1⟩ => ?_) hs rfl))
  obtain ⟨a, xs, ex, hq, q⟩ := q1
  subst ex
  cases r1 with
  | cons r rr =>
    cases rr
    cases r
    obtain ⟨its, rv, p', hz⟩ := I1.tuple hq
    have hal : a < s1.heap.objs.size := by obtain ⟨o, ho, _⟩ := id p'; exact Heap.lt_size ho
    refine call_enumT p' fun h' he hit hk => wpAny_pyIter_enum he ?_
    have I2 : L2.Inv X pins σ H1 { s1 with heap := h' } := I1.kept (t' := s1.toks) hk
    refine ⟨s1.heap.objs.size + 1, [s1.heap.objs.size + 1, s1.heap.objs.size], _, _, H1, rfl, I2, turn_enumT a (s1.heap.objs.size + 1) s1.heap.objs.size (Nat.ne_of_lt (Nat.lt_succ_of_lt hal)) (Nat.ne_of_lt hal), ⟨⟨.none, he⟩, hit, Nat.succ_ne_self _⟩, fun b hb => ?_, q⟩
    have e' : b = s1.heap.objs.size + 1 ∨ b = s1.heap.objs.size := by simpa using hb
    have hle : s1.heap.objs.size ≤ b := by
      rcases e' with z | z
      · rw [z]; exact Nat.le_succ _
      · rw [z]; exact Nat.le_refl _
    exact I1.fpOk hle (I1.hok.fresh hle)
end FR

namespace FR
open PySem PySem.Spec L2 RZ _root_.RT

/-! ### what is walked -/
/-- the iterator J yields what ds tells, in any heap that holds F -/
def Real (K : PySem.W.Frag) (J : It) (ds : List D) (F : Hp) : Prop := ∀ F1 H1, Same F F1 → Same F1 H1 →
  (∀ i, i < ds.length → J.go i H1) ∧ J.stop ds.length H1 ∧ ∀ (i : Nat) (d : D) (x : V) (H' : Hp), ds[i]? = some d → J.yld i H1 x H' → ∃ F', Grow F1 H1 F' H' ∧ RV K F' x d
abbrev RSrc (K : PySem.W.Frag) : RRel (List D) It := fun _ _ F _ _ J ds => Real K J ds F
abbrev TIt (c : Ct) (f : Mn (List D)) : TI := G c (RSrc c.K) f
section
variable {K : PySem.W.Frag} {F : Hp} {a b : Addr} {vs ws : List V} {ds es : List D}
theorem RVs.at_ {i : Nat} {d : D} {x : V} (r : RVs K F vs ds) (e : ds[i]? = some d) (q : vs[i]? = some x) : RV K F x d := by
  obtain ⟨u, e1, rv⟩ := r.get e
  rw [q] at e1
  cases e1
  exact rv
theorem RVs.go {i : Nat} (r : RVs K F vs ds) (h : i < ds.length) : ∃ x, vs[i]? = some x := ⟨_, List.getElem?_eq_getElem (by rw [r.length]; exact h)⟩
theorem real_list (h : SqL K F a vs) (r : RVs K F vs ds) : Real K (Itl K a) ds F := fun F1 H1 m s => by
  have hq : SqL K H1 a vs := s.seq (m.seq h)
  refine ⟨fun i hi => ?_, ⟨vs, hq, by rw [r.length]; exact Nat.le_refl _⟩, fun i d x H' e y => ?_⟩
  · obtain ⟨x, hx⟩ := r.go hi
    exact ⟨vs, x, hq, hx⟩
  · obtain ⟨rfl, y⟩ := y
    exact ⟨F1, Grow.refl s, (r.at_ e (y vs hq)).mono m⟩
theorem real_tup (h : SqT K F a vs) (r : RVs K F vs ds) : Real K (Itt K a) ds F := fun F1 H1 m s => by
  have hq : SqT K H1 a vs := Same.seqT s (Same.seqT m h)
  refine ⟨fun i hi => ?_, ⟨vs, hq, by rw [r.length]; exact Nat.le_refl _⟩, fun i d x H' e y => ?_⟩
  · obtain ⟨x, hx⟩ := r.go hi
    exact ⟨vs, x, hq, hx⟩
  · obtain ⟨rfl, y⟩ := y
    exact ⟨F1, Grow.refl s, (r.at_ e (y vs hq)).mono m⟩
@[simp] def signsD (z : Str) : List D := z.cps.toList.map fun c => .str ⟨#[c]⟩
theorem real_str (z : Str) : Real K (Its z) (signsD z) F := fun F1 H1 m s => by
  have hl : (signsD z).length = z.cps.size := by simp
  refine ⟨fun i hi => by rw [hl] at hi; exact hi, by show z.cps.size ≤ _; rw [hl]; exact Nat.le_refl _, fun i d x H' e y => ?_⟩
  obtain ⟨rfl, c, hc, rfl⟩ := y
  refine ⟨F1, Grow.refl s, ?_⟩
  unfold signsD at e
  rw [List.getElem?_map, Array.getElem?_toList, hc] at e
  cases e
  exact .str _
@[simp] def rangeD (lo : Int) (n : Nat) : List D := (List.range n).map fun i => .int (lo + (i : Nat))
theorem real_range (lo : Int) (n : Nat) : Real K (Itr lo n) (rangeD lo n) F := fun F1 H1 m s => by
  have hl : (rangeD lo n).length = n := by simp
  refine ⟨fun i hi => by rw [hl] at hi; exact hi, by show n ≤ _; rw [hl]; exact Nat.le_refl _, fun i d x H' e y => ?_⟩
  obtain ⟨rfl, rfl⟩ := y
  refine ⟨F1, Grow.refl s, ?_⟩
  unfold rangeD at e
  rw [List.getElem?_map] at e
  obtain ⟨j, hj, rfl⟩ := Option.map_eq_some_iff.mp e
  have hjn : i < n := by
    have := (List.getElem?_eq_some_iff.mp hj).1
    simpa using this
  rw [List.getElem?_range hjn] at hj
  cases hj
  exact .int _
@[simp] def enumD (ds : List D) : List D := ds.zipIdx.map fun p => .tup [.int (p.2 : Nat), p.1]
theorem enumD_get {i : Nat} {d : D} (h : (enumD ds)[i]? = some d) : ∃ x, ds[i]? = some x ∧ d = .tup [.int (i : Nat), x] := by
  unfold enumD at h
  rw [List.getElem?_map] at h
  obtain ⟨⟨x, j⟩, h1, rfl⟩ := Option.map_eq_some_iff.mp h
  rw [List.getElem?_zipIdx] at h1
  obtain ⟨y, h2, e⟩ := Option.map_eq_some_iff.mp h1
  cases e
  exact ⟨_, h2, by simp⟩
theorem grow_pair {F1 H1 : Hp} {T : Addr} {x y : V} {d e : D} (s : Same F1 H1) (hT : H1 T = none) (rx : RV K F1 x d) (ry : RV K F1 y e) : Grow F1 H1 (upd F1 T (.tup [x, y])) (upd H1 T (.tup [x, y])) ∧ RV K (upd F1 T (.tup [x, y])) (.ref T) (.tup [d, e]) := by
  have g := Grow.new (o := .tup [x, y]) s hT
  exact ⟨g, .tup upd_same (.cons (rx.mono g.fm) (.cons (ry.mono g.fm) .nil))⟩
theorem real_enumL (h : SqL K F a vs) (r : RVs K F vs ds) : Real K (Ite K a) (enumD ds) F := fun F1 H1 m s => by
  have hq : SqL K H1 a vs := s.seq (m.seq h)
  have hl : (enumD ds).length = ds.length := by simp
  refine ⟨fun i hi => ?_, ⟨vs, hq, by rw [r.length, hl]; exact Nat.le_refl _⟩, fun i d x H' e y => ?_⟩
  · obtain ⟨x, hx⟩ := r.go (by rw [← hl]; exact hi)
    exact ⟨vs, x, hq, hx⟩
  · obtain ⟨T, u, rfl, hT, rfl, y⟩ := y
    obtain ⟨z, e1, rfl⟩ := enumD_get e
    obtain ⟨g, rv⟩ := grow_pair (K := K) s hT (.int _) ((r.at_ e1 (y vs hq)).mono m)
    exact ⟨_, g, rv⟩
theorem real_enumT (h : SqT K F a vs) (r : RVs K F vs ds) : Real K (IteT K a) (enumD ds) F := fun F1 H1 m s => by
  have hq : SqT K H1 a vs := Same.seqT s (Same.seqT m h)
  have hl : (enumD ds).length = ds.length := by simp
  refine ⟨fun i hi => ?_, ⟨vs, hq, by rw [r.length, hl]⟩, fun i d x H' e y => ?_⟩
  · obtain ⟨x, hx⟩ := r.go (by rw [← hl]; exact hi)
    exact ⟨vs, x, hq, hx⟩
  · obtain ⟨T, u, rfl, hT, rfl, y⟩ := y
    obtain ⟨z, e1, rfl⟩ := enumD_get e
    obtain ⟨g, rv⟩ := grow_pair (K := K) s hT (.int _) ((r.at_ e1 (y vs hq)).mono m)
    exact ⟨_, g, rv⟩
@[simp] def zipD (ds es : List D) : List D := (ds.zip es).map fun p => .tup [p.1, p.2]
theorem zipD_get {i : Nat} {d : D} (h : (zipD ds es)[i]? = some d) : ∃ x y, ds[i]? = some x ∧ es[i]? = some y ∧ d = .tup [x, y] := by
  unfold zipD at h
  rw [List.getElem?_map] at h
  obtain ⟨⟨x, y⟩, h1, rfl⟩ := Option.map_eq_some_iff.mp h
  obtain ⟨h2, h3⟩ := List.getElem?_zip_eq_some.mp h1
  exact ⟨x, y, h2, h3, rfl⟩
theorem real_zipL (h : SqL K F a vs) (r : RVs K F vs ds) (h' : SqL K F b ws) (r' : RVs K F ws es) : Real K (Itz K a b) (zipD ds es) F := fun F1 H1 m s => by
  have hq : SqL K H1 a vs := s.seq (m.seq h)
  have hq' : SqL K H1 b ws := s.seq (m.seq h')
  have hl : (zipD ds es).length = min ds.length es.length := by simp
  refine ⟨fun i hi => ?_, ⟨vs, ws, hq, hq', by rw [r.length, r'.length, hl]; omega⟩, fun i d x H' e y => ?_⟩
  · rw [hl] at hi
    obtain ⟨x, hx⟩ := r.go (i := i) (by omega)
    obtain ⟨y, hy⟩ := r'.go (i := i) (by omega)
    exact ⟨vs, ws, x, y, hq, hq', hx, hy⟩
  · obtain ⟨T, u, u', rfl, hT, rfl, y1, y2⟩ := y
    obtain ⟨z, z', e1, e2, rfl⟩ := zipD_get e
    obtain ⟨g, rv⟩ := grow_pair (K := K) s hT ((r.at_ e1 (y1 vs hq)).mono m) ((r'.at_ e2 (y2 ws hq')).mono m)
    exact ⟨_, g, rv⟩
theorem real_zipT (h : SqT K F a vs) (r : RVs K F vs ds) (h' : SqT K F b ws) (r' : RVs K F ws es) : Real K (ItzT K a b) (zipD ds es) F := fun F1 H1 m s => by
  have hq : SqT K H1 a vs := Same.seqT s (Same.seqT m h)
  have hq' : SqT K H1 b ws := Same.seqT s (Same.seqT m h')
  have hl : (zipD ds es).length = min ds.length es.length := by simp
  refine ⟨fun i hi => ?_, ⟨vs, ws, hq, hq', by rw [r.length, r'.length, hl]; omega⟩, fun i d x H' e y => ?_⟩
  · rw [hl] at hi
    obtain ⟨x, hx⟩ := r.go (i := i) (by omega)
    obtain ⟨y, hy⟩ := r'.go (i := i) (by omega)
    exact ⟨vs, ws, x, y, hq, hq', hx, hy⟩
  · obtain ⟨T, u, u', rfl, hT, rfl, y1, y2⟩ := y
    obtain ⟨z, z', e1, e2, rfl⟩ := zipD_get e
    obtain ⟨g, rv⟩ := grow_pair (K := K) s hT ((r.at_ e1 (y1 vs hq)).mono m) ((r'.at_ e2 (y2 ws hq')).mono m)
    exact ⟨_, g, rv⟩
theorem rev_get {α : Type} {xs : List α} {i : Nat} {x : α} (h : xs.reverse[i]? = some x) : i < xs.length ∧ xs[xs.length - 1 - i]? = some x := by
  have hi : i < xs.length := by
    have := (List.getElem?_eq_some_iff.mp h).1
    simpa using this
  exact ⟨hi, by rw [List.getElem?_reverse hi] at h; exact h⟩
theorem real_revL (h : SqL K F a vs) (r : RVs K F vs ds) : Real K (Itv K a vs.length) ds.reverse F := fun F1 H1 m s => by
  have hq : SqL K H1 a vs := s.seq (m.seq h)
  have hl : ds.reverse.length = vs.length := by rw [List.length_reverse, r.length]
  refine ⟨fun i hi => ?_, by show vs.length ≤ _; rw [hl]; exact Nat.le_refl _, fun i d x H' e y => ?_⟩
  · rw [hl] at hi
    obtain ⟨x, hx⟩ := r.go (i := vs.length - 1 - i) (by rw [← r.length]; omega)
    exact ⟨hi, vs, x, hq, hx⟩
  · obtain ⟨rfl, y⟩ := y
    obtain ⟨h1, h2⟩ := rev_get e
    exact ⟨F1, Grow.refl s, (r.at_ h2 (by rw [← r.length]; exact y vs hq)).mono m⟩
theorem real_revT (h : SqT K F a vs) (r : RVs K F vs ds) : Real K (ItvT K a vs.length) ds.reverse F := fun F1 H1 m s => by
  have hq : SqT K H1 a vs := Same.seqT s (Same.seqT m h)
  have hl : ds.reverse.length = vs.length := by rw [List.length_reverse, r.length]
  refine ⟨fun i hi => ?_, by show vs.length ≤ _; rw [hl]; exact Nat.le_refl _, fun i d x H' e y => ?_⟩
  · rw [hl] at hi
    obtain ⟨x, hx⟩ := r.go (i := vs.length - 1 - i) (by rw [← r.length]; omega)
    exact ⟨hi, vs, x, hq, hx⟩
  · obtain ⟨rfl, y⟩ := y
    obtain ⟨h1, h2⟩ := rev_get e
    exact ⟨F1, Grow.refl s, (r.at_ h2 (by rw [← r.length]; exact y vs hq)).mono m⟩
end
theorem real_mono {K : PySem.W.Frag} {J : It} {ds : List D} {F F' : Hp} (h : Real K J ds F) (m : Same F F') : Real K J ds F' := fun F1 H1 m1 s => h F1 H1 (m.trans m1) s
/-- what a value is as a sequence -/
@[simp] def seqD : D → Option (List D)
  | .tup xs => some xs
  | .kt xs => some xs
  | .lst xs => some xs
  | .lk xs => some xs
  | .str z => some (signsD z)
  | _ => none
@[simp] def liftL (r : Option (List D)) : Mn (List D) := fun S => match r with
  | some ds => .ok ds S
  | none => .bad
/-- a thing that is walked (a name's list is frozen) -/
@[simp] def srcS (f : Mn A) : Mn (List D) := bnd f fun a => bnd (toD a) fun d => liftL (seqD d)
section
variable {X : Cx} {c : Ct} {tg e e2 : Expr} {f g : Mn A} {pos p : Pos}
theorem PI.or {X : Cx} {tg e : Expr} {t t' : TI} (h : PI X tg e t) (h' : PI X tg e t') : PI X tg e (fun σ H Z => t σ H Z ∨ t' σ H Z) := ⟨fun pins s σ H Z I q => q.elim (h.run pins s σ H Z I) (h'.run pins s σ H Z I)⟩
/-- three ways at once, told apart behind the evaluation -/
inductive SqK where
  | l
  | t
  | s
@[simp] def kindD : D → Option SqK
  | .tup _ => some .t
  | .kt _ => some .t
  | .lst _ => some .l
  | .lk _ => some .l
  | .str _ => some .s
  | _ => none
theorem toD_exc {a : A} {S S' : Sl} {x : Ex} : toD a S ≠ .exc x S' := by
  intro e
  cases a with
  | v r => cases r <;> cases e
  | sl i =>
    simp only [toD] at e
    split at e <;> cases e
/-- behind a walked thing's evaluation -/
theorem t_src {σ : St} {H : Hp} {k : SqK} {Z : It → Hp → Prop} {F0 : Hp} {S0 S1 S2 : Sl} {a : A} {d : D} (R0 : Rel c.K F0 H σ S0) (e1 : f S0 = .ok a S1) (e2 : toD a S1 = .ok d S2) (ek : kindD d = some k)
    (h : Gat c (RSrc c.K) σ F0 H S0 Z (liftL (seqD d) S2)) : T c f σ H (fun v H1 => ∃ F2 ds, seqD d = some ds ∧ Step c.K c.fx σ F0 H S0 σ F2 H1 S2 ∧ RV c.K F2 v d ∧ ∀ J, Real c.K J ds F2 → Z J H1) := by
  refine ⟨F0, S0, R0, ?_⟩
  rw [e1]
  intro v F1 H1 s1 ra
  obtain ⟨F2, s2, m, rv, _⟩ := toD_ok s1 ra e2
  cases es : seqD d with
  | none => rw [es] at h; exact h.elim
  | some ds =>
    rw [es] at h
    exact ⟨F2, ds, rfl, s2, rv, fun J hJ => h J F2 H1 s2 hJ⟩
theorem hi_seq (hK : c.K = X.K) (he : PE X e (T c f)) : PI X tg e (TIt c (srcS f)) := PI.mono (PI.or (pi_list he) (PI.or (pi_tup he) (pi_str he))) fun σ H Z q => by
  obtain ⟨F0, S0, R0, q⟩ := q
  simp only [srcS, bnd] at q
  cases e1 : f S0 with
  | bad => rw [e1] at q; exact q.elim
  | exc x S' => rw [e1] at q; exact .inl ⟨F0, S0, R0, by rw [e1]; exact q⟩
  | ok a S1 =>
    rw [e1] at q
    simp only at q
    cases e2 : toD a S1 with
    | bad => rw [e2] at q; exact q.elim
    | exc x S' => exact absurd e2 toD_exc
    | ok d S2 =>
      rw [e2] at q
      simp only at q
      cases ek : kindD d with
      | none => cases d <;> first | (cases ek; done) | exact q.elim
      | some k =>
        have tt := t_src R0 e1 e2 ek q
        cases k with
        | l =>
          refine .inl (G.imp tt fun v H1 ⟨F2, ds, es, s2, rv, h⟩ => ?_)
          cases d with
          | lst xs => cases es; obtain ⟨a, vs, rfl, h1, h2⟩ := RV.lst_inv rv; exact ⟨a, rfl, ⟨vs, hK ▸ .inl (.inl (s2.rel.sub _ _ h1))⟩, hK ▸ h _ (real_list (.inl (.inl h1)) h2)⟩
          | lk xs => cases es; obtain ⟨a, vs, rfl, h1, h2⟩ := RV.lk_inv rv; exact ⟨a, rfl, ⟨vs, hK ▸ s2.rel.sub.seq h1⟩, hK ▸ h _ (real_list h1 h2)⟩
          | _ => cases ek
        | t =>
          refine .inr (.inl (G.imp tt fun v H1 ⟨F2, ds, es, s2, rv, h⟩ => ?_))
          cases d with
          | tup xs => cases es; obtain ⟨a, vs, rfl, h1, h2⟩ := RV.tup_inv rv; exact ⟨a, rfl, ⟨vs, hK ▸ .inl (.inl (s2.rel.sub _ _ h1))⟩, hK ▸ h _ (real_tup (.inl (.inl h1)) h2)⟩
          | kt xs => cases es; obtain ⟨a, vs, rfl, h1, h2⟩ := RV.kt_inv rv; exact ⟨a, rfl, ⟨vs, hK ▸ Same.seqT s2.rel.sub h1⟩, hK ▸ h _ (real_tup h1 h2)⟩
          | _ => cases ek
        | s =>
          refine .inr (.inr (G.imp tt fun v H1 ⟨F2, ds, es, s2, rv, h⟩ => ?_))
          cases d with
          | str z => cases es; exact ⟨z, RV.str_inv rv, h _ (real_str z)⟩
          | _ => cases ek
end
end FR

namespace FR
open PySem PySem.Spec L2 RZ _root_.RT

/-! ### range, enumerate, zip, reversed -/
@[simp] def i62 (i : Int) : Bool := decide (-(2 ^ 62) ≤ i) && decide (i < 2 ^ 62)
@[simp] def rg1 : List O → Option (List D)
  | [.d (.int j)] => if i62 j then some (rangeD 0 j.toNat) else none
  | _ => none
@[simp] def rg2 : List O → Option (List D)
  | [.d (.int i), .d (.int j)] => if i62 i && i62 j then some (rangeD i (j - i).toNat) else none
  | _ => none
@[simp] def rangeS (g : List O → Option (List D)) (fs : List (Mn A)) : Mn (List D) := bnd (evs fs) fun as S => liftL ((views as S).bind g) S
theorem gat_liftL {c : Ct} {σ : St} {F0 H0 F H : Hp} {S0 S : Sl} {Z : It → Hp → Prop} {r : Option (List D)} (s : Step c.K c.fx σ F0 H0 S0 σ F H S) (h : Gat c (RSrc c.K) σ F0 H0 S0 Z (liftL r S)) : ∃ ds, r = some ds ∧ ∀ J, Real c.K J ds F → Z J H := by
  cases r with
  | none => exact h.elim
  | some ds => exact ⟨ds, rfl, fun J hJ => h J F H s hJ⟩
section
variable {X : Cx} {c : Ct} {tg a b e : Expr} {f g : Mn A} {fs : List (Mn A)} {pos p : Pos}
theorem t_views {α : Type} {σ : St} {H : Hp} {Z : It → Hp → Prop} {k : List O → Option (List D)} (q : TIt c (rangeS k fs) σ H Z) : TAs c fs σ H (fun vs H1 => ∃ F1 S1 os ds, Rel c.K F1 H1 σ S1 ∧ ROs c.K F1 H1 vs os ∧ k os = some ds ∧ ∀ J, Real c.K J ds F1 → Z J H1) := by
  obtain ⟨F0, S0, R0, h⟩ := q
  refine G.imp (Gat.bind (RR := RAs c.K) (Step.refl R0) h) fun vs H1 ⟨as, F1, S1, s1, _, rs, g1⟩ => ?_
  obtain ⟨ds, ed, k'⟩ := gat_liftL s1 g1
  obtain ⟨os, eo, ed⟩ := Option.bind_eq_some_iff.mp ed
  exact ⟨F1, S1, os, ds, s1.rel, rs.ros s1.rel eo, ed, k'⟩
theorem hi_range1 (hg : Gl X "range") (hm : X.mg "range" = none) (ha : PA X [a] (TAs c fs)) (hs : starEach [a] X.env = [(false, eval a X.env)] := by rfl) : PI X tg (.Call (.Name "range" p) [a] [] pos) (TIt c (rangeS rg1 fs)) :=
  PI.mono (pi_range1 hg hm ha hs) fun σ H Z q => G.imp (t_views (α := Unit) q) fun vs H1 ⟨F1, S1, os, ds, R1, ro, ek, h⟩ => by
    unfold rg1 at ek
    split at ek
    · split at ek
      · rename_i j hj
        cases ek
        simp only [i62, Bool.and_eq_true, decide_eq_true_eq] at hj
        cases ro with
        | cons r1 r2 =>
          cases r2
          rw [RO.int r1]
          exact ⟨j, rfl, hj.1, hj.2, h _ (real_range 0 j.toNat)⟩
      · cases ek
    · cases ek
theorem hi_range2 (hg : Gl X "range") (hm : X.mg "range" = none) (ha : PA X [a, b] (TAs c fs)) (hs : starEach [a, b] X.env = [(false, eval a X.env), (false, eval b X.env)] := by rfl) (hs2 : starEach [b] X.env = [(false, eval b X.env)] := by rfl) : PI X tg (.Call (.Name "range" p) [a, b] [] pos) (TIt c (rangeS rg2 fs)) :=
  PI.mono (pi_range2 hg hm ha hs hs2) fun σ H Z q => G.imp (t_views (α := Unit) q) fun vs H1 ⟨F1, S1, os, ds, R1, ro, ek, h⟩ => by
    unfold rg2 at ek
    split at ek
    · split at ek
      · rename_i i j hj
        cases ek
        simp only [i62, Bool.and_eq_true, decide_eq_true_eq] at hj
        cases ro with
        | cons r1 r2 =>
          cases r2 with
          | cons r2 r3 =>
            cases r3
            rw [RO.int r1, RO.int r2]
            exact ⟨i, j, rfl, ⟨hj.1.1, hj.1.2, hj.2.1, hj.2.2⟩, h _ (real_range i (j - i).toNat)⟩
      · cases ek
    · cases ek
/-! the walked arguments are frozen -/
@[simp] def seqsD : List D → Option (List (List D))
  | [] => some []
  | d :: ds => (seqD d).bind fun x => (seqsD ds).map (x :: ·)
@[simp] def srcN (k : List D → Option (List D)) (fs : List (Mn A)) : Mn (List D) := bnd (evs fs) fun as => bnd (frzs as) fun ds => liftL (k ds)
theorem frzs_exc : ∀ {as : List A} {S S' : Sl} {x : Ex}, frzs as S ≠ .exc x S'
  | [], _, _, _, e => by cases e
  | a :: as, S, S', x, e => by
    simp only [frzs, bnd] at e
    cases e1 : toD a S with
    | bad => rw [e1] at e; cases e
    | exc y S2 => exact toD_exc e1
    | ok d S2 =>
      rw [e1] at e
      simp only at e
      cases e2 : frzs as S2 with
      | bad => rw [e2] at e; cases e
      | exc y S3 => exact frzs_exc e2
      | ok ds S3 => rw [e2] at e; cases e
/-- two ways, told apart by the frozen arguments -/
theorem t_srcN {k : List D → Option (List D)} {σ : St} {H : Hp} {Z : It → Hp → Prop} (q : TIt c (srcN k fs) σ H Z) (P : List D → Prop) [DecidablePred P] :
    (TAs c fs σ H fun vs H1 => ∃ F1 S1 ds es, P ds ∧ Rel c.K F1 H1 σ S1 ∧ RVs c.K F1 vs ds ∧ k ds = some es ∧ ∀ J, Real c.K J es F1 → Z J H1) ∨ (TAs c fs σ H fun vs H1 => ∃ F1 S1 ds es, ¬ P ds ∧ Rel c.K F1 H1 σ S1 ∧ RVs c.K F1 vs ds ∧ k ds = some es ∧ ∀ J, Real c.K J es F1 → Z J H1) := by
  obtain ⟨F0, S0, R0, h⟩ := q
  simp only [srcN, bnd] at h
  cases e : evs fs S0 with
  | bad => rw [e] at h; exact h.elim
  | exc x S' => rw [e] at h; exact .inl ⟨F0, S0, R0, by rw [e]; exact h⟩
  | ok as S1 =>
    rw [e] at h
    simp only at h
    cases e2 : frzs as S1 with
    | bad => rw [e2] at h; exact h.elim
    | exc x S' => exact (frzs_exc e2).elim
    | ok ds S2 =>
      rw [e2] at h
      simp only at h
      cases ek : k ds with
      | none => rw [ek] at h; exact h.elim
      | some es =>
        rw [ek] at h
        by_cases hp : P ds
        · refine .inl ⟨F0, S0, R0, ?_⟩
          rw [e]
          intro vs F1 H1 s1 rs
          obtain ⟨F2, s2, _, rv⟩ := frzs_ok s1 rs e2
          exact ⟨F2, S2, ds, es, hp, s2.rel, rv, ek, fun J hJ => h J F2 H1 s2 hJ⟩
        · refine .inr ⟨F0, S0, R0, ?_⟩
          rw [e]
          intro vs F1 H1 s1 rs
          obtain ⟨F2, s2, _, rv⟩ := frzs_ok s1 rs e2
          exact ⟨F2, S2, ds, es, hp, s2.rel, rv, ek, fun J hJ => h J F2 H1 s2 hJ⟩
/-- a list, a tuple -/
@[simp] def lstD : D → Option (List D)
  | .lst xs => some xs
  | .lk xs => some xs
  | _ => none
@[simp] def tupD : D → Option (List D)
  | .tup xs => some xs
  | .kt xs => some xs
  | _ => none
theorem lstD_ok {K : PySem.W.Frag} {F : Hp} {v : V} {d : D} {xs : List D} (r : RV K F v d) (e : lstD d = some xs) : ∃ a vs, v = .ref a ∧ SqL K F a vs ∧ RVs K F vs xs := by
  cases d with
  | lst ys => cases e; obtain ⟨a, vs, e1, e2, e3⟩ := RV.lst_inv r; exact ⟨a, vs, e1, .inl (.inl e2), e3⟩
  | lk ys => cases e; obtain ⟨a, vs, e1, e2, e3⟩ := RV.lk_inv r; exact ⟨a, vs, e1, e2, e3⟩
  | _ => cases e
theorem tupD_ok {K : PySem.W.Frag} {F : Hp} {v : V} {d : D} {xs : List D} (r : RV K F v d) (e : tupD d = some xs) : ∃ a vs, v = .ref a ∧ SqT K F a vs ∧ RVs K F vs xs := by
  cases d with
  | tup ys => cases e; obtain ⟨a, vs, e1, e2, e3⟩ := RV.tup_inv r; exact ⟨a, vs, e1, .inl (.inl e2), e3⟩
  | kt ys => cases e; obtain ⟨a, vs, e1, e2, e3⟩ := RV.kt_inv r; exact ⟨a, vs, e1, e2, e3⟩
  | _ => cases e
@[simp] def en1 : List D → Option (List D)
  | [d] => match lstD d with
    | some xs => some (enumD xs)
    | none => (tupD d).map enumD
  | _ => none
theorem hi_enum (hK : c.K = X.K) {tpos : Pos} {elts : List Expr} {kk : Nat} (hg : Gl X "enumerate") (hm : X.mg "enumerate" = none) (ha : PA X [e] (TAs c fs)) (hs : starEach [e] X.env = [(false, eval e X.env)] := by rfl) : PI X (.Tuple elts kk tpos) (.Call (.Name "enumerate" p) [e] [] pos) (TIt c (srcN en1 fs)) :=
  PI.mono (PI.or (pi_enum hg hm ha hs) (pi_enumT hg hm ha hs)) fun σ H Z q => (t_srcN q (fun ds => ds.all (fun d => (lstD d).isSome) = true)).imp (fun t => G.imp t fun vs H1 ⟨F1, S1, ds, es, hp, R1, rv, ek, h⟩ => by
      unfold en1 at ek
      split at ek
      · rename_i d
        cases rv with
        | cons r1 r2 =>
          cases r2
          split at ek
          · rename_i xs hx
            cases ek
            obtain ⟨a, vs, rfl, h1, h2⟩ := lstD_ok r1 hx
            exact ⟨a, vs, rfl, hK ▸ R1.sub.seq h1, hK ▸ h _ (real_enumL h1 h2)⟩
          · rename_i hx
            rw [List.all_cons, hx] at hp
            exact absurd hp (by simp only [Option.isSome_none, Bool.false_and]; exact Bool.false_ne_true)
      · cases ek) fun t => G.imp t fun vs H1 ⟨F1, S1, ds, es, hp, R1, rv, ek, h⟩ => by
      unfold en1 at ek
      split at ek
      · rename_i d
        cases rv with
        | cons r1 r2 =>
          cases r2
          split at ek
          · rename_i xs hx
            refine absurd ?_ hp
            rw [List.all_cons, hx, List.all_nil]
            rfl
          · obtain ⟨xs, hx, rfl⟩ := Option.map_eq_some_iff.mp ek
            obtain ⟨a, vs, rfl, h1, h2⟩ := tupD_ok r1 hx
            exact ⟨a, vs, rfl, hK ▸ Same.seqT R1.sub h1, hK ▸ h _ (real_enumT h1 h2)⟩
      · cases ek
@[simp] def zp2 : List D → Option (List D)
  | [d, e] => match lstD d, lstD e with
    | some xs, some ys => some (zipD xs ys)
    | _, _ => match tupD d, tupD e with
      | some xs, some ys => some (zipD xs ys)
      | _, _ => none
  | _ => none
theorem hi_zip {e2 : Expr} (hK : c.K = X.K) {tpos : Pos} {elts : List Expr} {kk : Nat} (hg : Gl X "zip") (hm : X.mg "zip" = none) (ha : PA X [e, e2] (TAs c fs)) (hs : starEach [e, e2] X.env = (false, eval e X.env) :: starEach [e2] X.env := by rfl) (hpl : (backTo pos (starEach [e2] X.env)).any (·.1) = false := by rfl) : PI X (.Tuple elts kk tpos) (.Call (.Name "zip" p) [e, e2] [] pos) (TIt c (srcN zp2 fs)) :=
  PI.mono (pi_zipA hg hm ha hs hpl) fun σ H Z q => ((t_srcN q (fun _ => True)).elim (fun t => t) fun t => G.imp t fun vs H1 ⟨_, _, _, _, hp, _⟩ => (hp trivial).elim) |> fun t => G.imp t fun vs H1 ⟨F1, S1, ds, es, _, R1, rv, ek, h⟩ => by
      unfold zp2 at ek
      split at ek
      · rename_i d d'
        cases rv with
        | cons r1 r2 =>
          cases r2 with
          | cons r2 r3 =>
            cases r3
            split at ek
            · rename_i xs ys hx hy
              cases ek
              obtain ⟨a, vs, rfl, h1, h2⟩ := lstD_ok r1 hx
              obtain ⟨b, ws, rfl, h3, h4⟩ := lstD_ok r2 hy
              exact ⟨a, b, vs, ws, rfl, .inl ⟨hK ▸ R1.sub.seq h1, hK ▸ R1.sub.seq h3, hK ▸ h _ (real_zipL h1 h2 h3 h4)⟩⟩
            · split at ek
              · rename_i xs ys hx hy
                cases ek
                obtain ⟨a, vs, rfl, h1, h2⟩ := tupD_ok r1 hx
                obtain ⟨b, ws, rfl, h3, h4⟩ := tupD_ok r2 hy
                exact ⟨a, b, vs, ws, rfl, .inr ⟨hK ▸ Same.seqT R1.sub h1, hK ▸ Same.seqT R1.sub h3, hK ▸ h _ (real_zipT h1 h2 h3 h4)⟩⟩
              · cases ek
      · cases ek
/-! ### for -/
@[simp] def onOut (k : Mn Out) : Out → Mn Out
  | .nx => k
  | .ct => k
  | .bk => ret .nx
  | .rt r => ret (.rt r)
def forS (g : O → Mn Unit) (b : Mn Out) : List D → Mn Out
  | [] => ret .nx
  | d :: ds => bnd (g (.d d)) fun _ => bnd b (onOut (forS g b ds))
@[simp] def forA (s : Mn (List D)) (g : O → Mn Unit) (b : Mn Out) : Mn Out := bnd s (forS g b)
theorem hs_for {iter : Expr} {body : List Stmt} {s : Mn (List D)} {g : O → Mn Unit} {b : Mn Out} (hp : PassesOwn (model X.prog X.w) X.A X.env X.xe) (hc : X.calm = true) (hi : PI X tg iter (TIt c s)) (hg : PG X tg (tG c g)) (hb : PSs X body (tS c b))
    (hs : ∀ x, foldedSetIterable iter X.env x = pure x := by intro _; rfl) : PS X (.For tg iter body [] pos) (tS c (forA s g b)) := PS.mono (ps_for hp hc hi hg hb hs) fun D σ H q => by
  obtain ⟨F, S, n, q⟩ := q
  refine G.imp (Sat.bind (RR := RSrc c.K) n q) fun J H1 ⟨ds, F1, S1, n1, st, rl, q1⟩ => ?_
  have q2 := q1.older st.mono
  refine ⟨fun i m σ H => i + m = ds.length ∧ ∃ F S, Same F1 F ∧ Now c σ F H S ∧ Sat c F D (forS g b (ds.drop i) S), ⟨ds.length, by omega, F1, S1, Same.refl _, n1, by rw [List.drop_zero]; exact q2⟩, fun i m σ H ⟨hm, F, S, sm, nw, qs⟩ => ?_⟩
  obtain ⟨go, stop, yld⟩ := rl F H sm nw.rel.sub
  by_cases hi : i < ds.length
  · refine .inr ⟨go i hi, fun σ' H' => (i + 1) + (m - 1) = ds.length ∧ ∃ F S, Same F1 F ∧ Now c σ' F H' S ∧ Sat c F D (forS g b (ds.drop (i + 1)) S), fun σ' H' h => ⟨m - 1, by omega, h⟩, fun x H' y => ?_⟩
    obtain ⟨F', gr, rv⟩ := yld i ds[i] x H' (List.getElem?_eq_getElem hi) y
    have nw' : Now c σ F' H' S := nw.trans (gr.step nw.rel)
    rw [List.drop_eq_getElem_cons hi] at qs
    have qs' := Sat.older gr.fm qs
    unfold forS bnd at qs'
    refine ⟨F', S, .d ds[i], nw', rv, ?_⟩
    cases eg : g (.d ds[i]) S with
    | bad => rw [eg] at qs'; exact qs'
    | exc x S' => rw [eg] at qs'; exact qs'
    | ok u S2 =>
      rw [eg] at qs'
      simp only at qs'
      intro σ2 F2 H2 n2 m2
      refine ⟨F2, S2, n2, ?_⟩
      have qs2 := Sat.older m2 qs'
      cases eb : b S2 with
      | bad => rw [eb] at qs2; exact qs2
      | exc x S' => rw [eb] at qs2; exact qs2
      | ok o S3 =>
        rw [eb] at qs2
        cases o with
        | nx => exact fun σ3 F3 H3 n3 m3 => ⟨by omega, F3, S3, sm.trans (gr.fm.trans (m2.trans m3)), n3, qs2.older m3⟩
        | ct => exact fun σ3 F3 H3 n3 m3 => ⟨by omega, F3, S3, sm.trans (gr.fm.trans (m2.trans m3)), n3, qs2.older m3⟩
        | bk => exact qs2
        | rt r => exact qs2
  · have e : i = ds.length := by omega
    subst e
    rw [List.drop_length] at qs
    exact .inl ⟨stop, qs σ F H nw (Same.refl _)⟩
/-! ### while -/
def whN (p : Mn Bool) (b : Mn Out) : Nat → Mn Out
  | 0 => fun _ => .bad
  | n + 1 => bnd p fun t => match t with
    | false => ret .nx
    | true => bnd b (onOut (whN p b n))
open Classical in
/-- the loop, where it ends -/
noncomputable def whS (p : Mn Bool) (b : Mn Out) : Mn Out := fun S => if h : ∃ n, whN p b n S ≠ .bad then whN p b (Classical.choose h) S else .bad
theorem whN_succ {p : Mn Bool} {b : Mn Out} : ∀ {n : Nat} {S : Sl}, whN p b n S ≠ .bad → whN p b (n + 1) S = whN p b n S
  | 0, S, h => absurd rfl h
  | n + 1, S, h => by
    show bnd p _ S = bnd p _ S
    unfold bnd
    cases e : p S with
    | bad => rfl
    | exc x S' => rfl
    | ok t S1 =>
      cases t with
      | false => rfl
      | true =>
        show bnd b _ S1 = bnd b _ S1
        unfold bnd
        cases e2 : b S1 with
        | bad => rfl
        | exc x S' => rfl
        | ok o S2 =>
          have hh : whN p b (n + 1) S = onOut (whN p b n) o S2 := by
            show bnd p _ S = _
            unfold bnd
            rw [e]
            show bnd b _ S1 = _
            unfold bnd
            rw [e2]
          have hn : ∀ o', o' = o → (o' = .nx ∨ o' = .ct) → whN p b n S2 ≠ .bad := fun o' e3 e4 z => by
            subst e3
            rcases e4 with e4 | e4 <;> subst e4 <;> exact h (hh.trans z)
          cases o with
          | nx => exact whN_succ (hn _ rfl (.inl rfl))
          | ct => exact whN_succ (hn _ rfl (.inr rfl))
          | bk => rfl
          | rt r => rfl
theorem whN_add {p : Mn Bool} {b : Mn Out} {n : Nat} {S : Sl} (h : whN p b n S ≠ .bad) : ∀ k, whN p b (n + k) S = whN p b n S
  | 0 => rfl
  | k + 1 => by
    have ih := whN_add h k
    rw [show n + (k + 1) = (n + k) + 1 by omega, whN_succ (by rw [ih]; exact h), ih]
theorem whS_of {p : Mn Bool} {b : Mn Out} {n : Nat} {S : Sl} (h : whN p b n S ≠ .bad) : whS p b S = whN p b n S := by
  unfold whS
  have hx : ∃ n, whN p b n S ≠ .bad := ⟨n, h⟩
  rw [dif_pos hx]
  have hc := Classical.choose_spec hx
  rcases Nat.le_total n (Classical.choose hx) with z | z
  · obtain ⟨k, hk⟩ := Nat.exists_eq_add_of_le z
    rw [hk]
    exact whN_add h k
  · obtain ⟨k, hk⟩ := Nat.exists_eq_add_of_le z
    have := whN_add hc k
    rw [← hk] at this
    exact this.symm
theorem hs_while {t : Expr} {body : List Stmt} {q : Mn Bool} {b : Mn Out} (hp : PassesOwn (model X.prog X.w) X.A X.env X.xe) (hc : PT X t (TB c q)) (hb : PSs X body (tS c b)) : PS X (.While t body [] pos) (tS c (whS q b)) := PS.mono (ps_while hp hc hb) fun D σ H h => by
  obtain ⟨F, S, n, h⟩ := h
  have hx : ∃ n, whN q b n S ≠ .bad := by
    apply Classical.byContradiction
    intro z
    unfold whS at h
    rw [dif_neg z] at h
    exact h
  obtain ⟨m0, hm0⟩ := hx
  rw [whS_of hm0] at h
  refine ⟨fun m σ H => ∃ F S, Now c σ F H S ∧ Sat c F D (whN q b m S), ⟨m0, F, S, n, h⟩, fun m σ H ⟨F, S, nw, hs⟩ => ?_⟩
  cases m with
  | zero => exact hs.elim
  | succ m =>
    refine G.imp (Sat.bind (RR := fun _ _ _ _ _ (w : Bool) (b : Bool) => w = b) nw hs) fun v H1 ⟨a, F1, S1, n1, st, ra, q1⟩ => ?_
    cases ra
    have q2 := q1.older st.mono
    cases v with
    | false => exact iteF (q2 σ F1 H1 n1 (Same.refl _))
    | true =>
      refine iteT ⟨fun σ' H' => ∃ F S, Now c σ' F H' S ∧ Sat c F D (whN q b m S), fun σ' H' h => ⟨m, Nat.lt_succ_self _, h⟩, F1, S1, n1, ?_⟩
      have q3 : Sat c F1 D (bnd b (onOut (whN q b m)) S1) := q2
      unfold bnd at q3
      cases eb : b S1 with
      | bad => rw [eb] at q3; exact q3
      | exc x S' => rw [eb] at q3; exact q3
      | ok o S3 =>
        rw [eb] at q3
        cases o with
        | nx => exact fun σ3 F3 H3 n3 m3 => ⟨F3, S3, n3, q3.older m3⟩
        | ct => exact fun σ3 F3 H3 n3 m3 => ⟨F3, S3, n3, q3.older m3⟩
        | bk => exact q3
        | rt r => exact q3
end
end FR

namespace FR
open PySem PySem.Spec L2 RZ _root_.RT

/-! ### comprehensions -/
@[simp] def wipeS (S : Sl) : List Nat → Sl
  | [] => S
  | v :: vs => (wipeS S vs).set v none
theorem wipeS_len {S : Sl} : ∀ {vs : List Nat}, (wipeS S vs).length = S.length
  | [] => rfl
  | v :: vs => by rw [wipeS, List.length_set, wipeS_len]
theorem wipeS_get {S : Sl} {i : Nat} {r : O} : ∀ {vs : List Nat}, (wipeS S vs)[i]? = some (some r) → S[i]? = some (some r) ∧ i ∉ vs
  | [], h => ⟨h, by simp⟩
  | v :: vs, h => by
    rw [wipeS] at h
    by_cases hi : v = i
    · subst hi
      rcases Nat.lt_or_ge v (wipeS S vs).length with hv | hv
      · rw [List.getElem?_set_self hv] at h; cases h
      · rw [List.getElem?_eq_none (by rw [List.length_set]; exact hv)] at h; cases h
    · rw [List.getElem?_set_ne hi] at h
      obtain ⟨h1, h2⟩ := wipeS_get h
      exact ⟨h1, by simp only [List.mem_cons, not_or]; exact ⟨fun e => hi e.symm, h2⟩⟩
/-- the block's names as they were (what they owned is not told) -/
@[simp] def restS (S : Sl) : List Nat → Sl → Sl
  | [], S' => S'
  | v :: vs, S' => (restS S vs S').set v (match S[v]? with
    | some (some (.d x)) => some (.d x)
    | _ => none)
theorem restS_len {S S' : Sl} : ∀ {vs : List Nat}, (restS S vs S').length = S'.length
  | [] => rfl
  | v :: vs => by rw [restS, List.length_set, restS_len]
theorem restS_get {S S' : Sl} {i : Nat} {r : O} : ∀ {vs : List Nat}, (restS S vs S')[i]? = some (some r) → (∃ x, r = .d x ∧ S[i]? = some (some (.d x))) ∨ (i ∉ vs ∧ S'[i]? = some (some r))
  | [], h => .inr ⟨by simp, h⟩
  | v :: vs, h => by
    rw [restS] at h
    by_cases hi : v = i
    · subst hi
      rcases Nat.lt_or_ge v (restS S vs S').length with hv | hv
      · rw [List.getElem?_set_self hv] at h
        cases e : S[v]? with
        | none => rw [e] at h; cases h
        | some z =>
          cases z with
          | none => rw [e] at h; cases h
          | some z =>
            cases z with
            | d x => rw [e] at h; cases h; exact .inl ⟨x, rfl, rfl⟩
            | own k => rw [e] at h; cases h
      · rw [List.getElem?_eq_none (by rw [List.length_set]; exact hv)] at h; cases h
    · rw [List.getElem?_set_ne hi] at h
      rcases restS_get h with z | ⟨z1, z2⟩
      · exact .inl z
      · exact .inr ⟨by simp only [List.mem_cons, not_or]; exact ⟨fun e => hi e.symm, z1⟩, z2⟩
@[simp] def fxv (vs : List Nat) (i : Nat) : Bool := !vs.contains i
theorem fxv_iff {vs : List Nat} {i : Nat} : fxv vs i = true ↔ i ∉ vs := by simp
section
variable {K : PySem.W.Frag} {fx fx' : Nat → Bool} {σ σ2 : St} {F H F0 H0 F2 H2 : Hp} {S S0 S2 : Sl} {vs : List Nat}
theorem Rel.wipe (R : Rel K F H σ S) (e : L2.wipe σ vs = L2.wipe σ2 vs) : Rel K F H (L2.wipe σ2 vs) (wipeS S vs) := by
  have key : ∀ {i : Nat} {r : O}, (wipeS S vs)[i]? = some (some r) → S[i]? = some (some r) ∧ (L2.wipe σ2 vs)[i]? = σ[i]? := fun {i r} h => by
    obtain ⟨h1, h2⟩ := wipeS_get h
    exact ⟨h1, by rw [← e, wipe_out h2]⟩
  refine ⟨R.sub, fun i r h => ?_, fun i j k k' a h1 h2 h3 h4 => ?_, ?_⟩
  · obtain ⟨h1, h2⟩ := key h
    rw [h2]
    exact R.sl i r h1
  · obtain ⟨a1, a2⟩ := key h1
    obtain ⟨b1, b2⟩ := key h2
    rw [a2] at h3
    rw [b2] at h4
    exact R.inj i j k k' a a1 b1 h3 h4
  · rw [wipeS_len, ← e, wipe_length]
    exact R.len
/-- the slots of the block's names forgotten at the end of a turn -/
theorem Step.wipe {σ0 : St} (s : Step K fx σ0 F0 H0 S0 σ F H S) (e : L2.wipe σ vs = L2.wipe σ0 vs) (hσ : L2.wipe σ0 vs = σ0) : Step K fx' σ0 F0 H0 S0 σ0 F H (wipeS S vs) := by
  have rw' : Rel K F H σ0 (wipeS S vs) := by
    have := s.rel.wipe (σ2 := σ0) e
    rw [hσ] at this
    exact this
  refine ⟨rw', s.mono, s.frame, s.there, s.grow, fun i k b e1 e2 => ?_, fun _ _ => rfl, rfl⟩
  obtain ⟨h1, h2⟩ := wipeS_get e1
  have e3 : σ[i]? = some (some (.ref b)) := by
    rw [← wipe_out (σ := σ) h2, e, hσ]
    exact e2
  exact s.own i k b h1 e3
theorem wipe_wipe : ∀ {vs : List Nat}, L2.wipe (L2.wipe σ vs) vs = L2.wipe σ vs := fun {vs} => by
  apply List.ext_getElem?
  intro i
  by_cases hi : i ∈ vs
  · have hn : ∀ (τ : St) (us : List Nat), i ∈ us → (L2.wipe τ us)[i]? = none ∨ (L2.wipe τ us)[i]? = some none := fun τ us => by
      induction us with
      | nil => intro h; cases h
      | cons u us ih =>
        intro h
        show ((L2.wipe τ us).set u none)[i]? = none ∨ ((L2.wipe τ us).set u none)[i]? = some none
        by_cases hu : u = i
        · subst hu
          rcases Nat.lt_or_ge u (L2.wipe τ us).length with hl | hl
          · exact .inr (List.getElem?_set_self hl)
          · exact .inl (List.getElem?_eq_none (by rw [List.length_set]; exact hl))
        · rw [List.getElem?_set_ne hu]
          rcases List.mem_cons.mp h with z | z
          · exact absurd z.symm hu
          · exact ih z
    have l1 := wipe_length σ vs
    have l2 := wipe_length (L2.wipe σ vs) vs
    rcases Nat.lt_or_ge i σ.length with hl | hl
    · have a1 : i < (L2.wipe σ vs).length := by omega
      have a2 : i < (L2.wipe (L2.wipe σ vs) vs).length := by omega
      rcases hn σ vs hi with z | z
      · rw [List.getElem?_eq_getElem a1] at z; cases z
      · rcases hn (L2.wipe σ vs) vs hi with y | y
        · rw [List.getElem?_eq_getElem a2] at y; cases y
        · rw [z, y]
    · rw [List.getElem?_eq_none (by omega), List.getElem?_eq_none (by omega)]
  · rw [wipe_out hi]
theorem wipe_fix (h : ∀ (i : Nat), fxv vs i = true → σ2[i]? = σ[i]?) (l : σ2.length = σ.length) : L2.wipe σ2 vs = L2.wipe σ vs := by
  apply List.ext_getElem?
  intro i
  by_cases hi : i ∈ vs
  · have hn : ∀ (τ : St) (us : List Nat), i ∈ us → (L2.wipe τ us)[i]? = if i < τ.length then some none else none := fun τ us => by
      induction us with
      | nil => intro h; cases h
      | cons u us ih =>
        intro h
        show ((L2.wipe τ us).set u none)[i]? = _
        by_cases hu : u = i
        · subst hu
          by_cases hl : u < τ.length
          · rw [if_pos hl, List.getElem?_set_self (by rw [wipe_length]; exact hl)]
          · rw [if_neg hl, List.getElem?_eq_none (by rw [List.length_set, wipe_length]; omega)]
        · rw [List.getElem?_set_ne hu]
          rcases List.mem_cons.mp h with z | z
          · exact absurd z.symm hu
          · exact ih z
    rw [hn σ2 vs hi, hn σ vs hi, l]
  · rw [wipe_out hi, wipe_out hi, h i (fxv_iff.mpr hi)]
end
/-- the loop of a comprehension: acc is what is made so far -/
def compL (vs : List Nat) (g : O → Mn Unit) (p : Mn Bool) (f : Mn A) : List D → List D → Mn (List D)
  | [], acc => ret acc
  | d :: ds, acc => bnd (g (.d d)) fun _ => bnd p fun t => match t with
    | true => bnd f fun a => bnd (toD a) fun y S => if acc.length < lim then compL vs g p f ds (acc ++ [y]) (wipeS S vs) else .bad
    | false => fun S => compL vs g p f ds acc (wipeS S vs)
def compA (vs : List Nat) (s : Mn (List D)) (g : O → Mn Unit) (p : Mn Bool) (f : Mn A) : Mn A := bnd s fun ds S => match compL vs g p f ds [] (wipeS S vs) with
  | .ok acc S' => .ok (.v (.own (.lst acc))) (restS S vs S')
  | _ => .bad
/-- the context of a comprehension's block -/
abbrev ctB (c : Ct) (vs : List Nat) (σ : St) (F H : Hp) (S : Sl) : Ct := ⟨c.K, c.mg, fxv vs, E0, σ, F, H, S⟩
section
variable {X : Cx} {c : Ct} {vs : List Nat} {s : Mn (List D)} {g : O → Mn Unit} {p : Mn Bool} {f : Mn A}
/-- a target's, a test's, an element's reading, whatever the block's start -/
theorem t_comp {wi : TI} (hwi : ∀ σ H Z, TIt c s σ H Z → wi σ H Z) {gg : TG} {tt : TT} {te : TE} (hg : ∀ σ F H S, ∀ v σ' H' Q, tG (ctB c vs σ F H S) g v σ' H' Q → gg v σ' H' Q) (ht : ∀ σ F H S, ∀ σ' H' Q, TB (ctB c vs σ F H S) p σ' H' Q → tt σ' H' Q) (he : ∀ σ F H S, ∀ σ' H' Q, T (ctB c vs σ F H S) f σ' H' Q → te σ' H' Q)
    (σ : St) (H : Hp) (Q : VK) (q : T c (compA vs s g p f) σ H Q) : tLc wi gg tt te vs σ H Q := by
  obtain ⟨F0, S0, R0, q⟩ := q
  refine hwi σ H _ (G.imp (Gat.bind (RR := RSrc c.K) (Step.refl R0) q) fun J H1 ⟨ds, F1, S1, s1, _, rl, q1⟩ => ?_)
  intro Da hD
  cases ec : compL vs g p f ds [] (wipeS S1 vs) with
  | bad => rw [ec] at q1; exact q1.elim
  | exc x S' => rw [ec] at q1; exact q1.elim
  | ok accE SE =>
    rw [ec] at q1
    have R1 := s1.rel
    have fD : F1 Da = none := R1.sub.free hD
    have Rw : Rel c.K F1 H1 (L2.wipe σ vs) (wipeS S1 vs) := R1.wipe rfl
    -- from the block's start to the end
    have fin : ∀ {F2 H2 : Hp} {vacc : List V}, Step c.K (fxv vs) (L2.wipe σ vs) F1 H1 (wipeS S1 vs) (L2.wipe σ vs) F2 H2 SE → H2 Da = some (.lst vacc) → RVs c.K F2 vacc accE → F2 Da = none → ¬ Own (L2.wipe σ vs) SE Da → Q (.ref Da) H2 := fun {F2 H2 vacc} st h1 h2 h3 h4 => by
      have key : ∀ {i : Nat} {r : O}, (restS S1 vs SE)[i]? = some (some r) → (∃ x, r = .d x ∧ S1[i]? = some (some (.d x))) ∨ (SE[i]? = some (some r) ∧ (L2.wipe σ vs)[i]? = σ[i]? ∧ i ∉ vs) := fun {i r} h => by
        rcases restS_get h with z | ⟨z1, z2⟩
        · exact .inl z
        · exact .inr ⟨z2, wipe_out z1, z1⟩
      have st2 : Step c.K c.fx σ F1 H1 S1 σ F2 H2 (restS S1 vs SE) := by
        have toOwn : ∀ b, Own (L2.wipe σ vs) (wipeS S1 vs) b → Own σ S1 b := fun b ⟨i, k, e1, e2⟩ => by
          obtain ⟨a1, a2⟩ := wipeS_get e1
          exact ⟨i, k, a1, by rw [← wipe_out a2]; exact e2⟩
        refine ⟨⟨st.rel.sub, fun i r h => ?_, fun i j k k' a q1 q2 q3 q4 => ?_, ?_⟩, st.mono, fun b o e m => st.frame b o e fun z => m (toOwn b z), st.there, fun b o e => ?_, fun i k b e1 e2 => ?_, fun _ _ => rfl, rfl⟩
        · rcases key h with ⟨x, rfl, e⟩ | ⟨e, e2, _⟩
          · obtain ⟨v, e3, ro⟩ := R1.sl i _ e
            exact ⟨v, e3, RV.mono st.mono ro⟩
          · obtain ⟨v, e3, ro⟩ := st.rel.sl i r e
            exact ⟨v, by rw [← e2]; exact e3, ro⟩
        · rcases key q1 with ⟨x, e, _⟩ | ⟨e, e2, _⟩
          · cases e
          · rcases key q2 with ⟨x, e', _⟩ | ⟨e', e2', _⟩
            · cases e'
            · exact st.rel.inj i j k k' a e e' (by rw [e2]; exact q3) (by rw [e2']; exact q4)
        · rw [restS_len, st.rel.len, wipe_length]
        · rcases st.grow b o e with z | z | z
          · exact .inl z
          · exact .inr (.inl z)
          · exact .inr (.inr (toOwn b z))
        · rcases key e1 with ⟨x, e, _⟩ | ⟨e, e3, hi⟩
          · cases e
          · rcases st.own i k b e (by rw [e3]; exact e2) with ⟨k0, y1, y2⟩ | y
            · exact .inl ⟨k0, (wipeS_get y1).1, e2⟩
            · exact .inr y
      refine q1 _ F2 H2 (s1.trans st2) ⟨Da, rfl, h3, ⟨vacc, h1, h2⟩, fun ⟨i, k, e1, e2⟩ => ?_, s1.non0 hD⟩
      rcases key e1 with ⟨x, e, _⟩ | ⟨e, e3, _⟩
      · cases e
      · exact h4 ⟨i, k, e, by rw [e3]; exact e2⟩
    -- the invariant
    refine ⟨fun i m H2 => i + m = ds.length ∧ ∃ F2 Sx acc vacc, Step c.K (fxv vs) (L2.wipe σ vs) F1 H1 (wipeS S1 vs) (L2.wipe σ vs) F2 H2 Sx ∧ H2 Da = some (.lst vacc) ∧ RVs c.K F2 vacc acc ∧ F2 Da = none ∧ ¬ Own (L2.wipe σ vs) Sx Da ∧ compL vs g p f (ds.drop i) acc Sx = .ok accE SE,
      ⟨ds.length, by omega, F1, wipeS S1 vs, [], [], ?_, upd_same, .nil, fD, fun z => ?_, by rw [List.drop_zero]; exact ec⟩, fun i m H2 ⟨hm, F2, Sx, acc, vacc, st, hDa, rva, fDa, noD, eq⟩ => ?_⟩
    · exact (Grow.cell R1.sub hD).step Rw
    · obtain ⟨_, u, hu⟩ := Rw.own z
      rw [hD] at hu
      cases hu
    · obtain ⟨go, stop, yld⟩ := rl F2 H2 st.mono st.rel.sub
      by_cases hi : i < ds.length
      · refine .inr ⟨go i hi, fun H3 => (i + 1) + (m - 1) = ds.length ∧ ∃ F2 Sx acc vacc, Step c.K (fxv vs) (L2.wipe σ vs) F1 H1 (wipeS S1 vs) (L2.wipe σ vs) F2 H3 Sx ∧ H3 Da = some (.lst vacc) ∧ RVs c.K F2 vacc acc ∧ F2 Da = none ∧ ¬ Own (L2.wipe σ vs) Sx Da ∧ compL vs g p f (ds.drop (i + 1)) acc Sx = .ok accE SE, fun H' h => ⟨m - 1, by omega, h⟩, fun x H3 y => ?_⟩
        obtain ⟨F3, gr, rv⟩ := yld i ds[i] x H3 (List.getElem?_eq_getElem hi) y
        have n3 := gr.step (fx := fxv vs) (σ := L2.wipe σ vs) st.rel
        have hDa3 : H3 Da = some (.lst vacc) := gr.hm _ _ hDa
        rw [List.drop_eq_getElem_cons hi] at eq
        unfold compL at eq
        simp only [bnd] at eq
        refine hg (L2.wipe σ vs) F3 H3 Sx x (L2.wipe σ vs) H3 _ ⟨F3, Sx, .d ds[i], Step.refl n3.rel, rv, ?_⟩
        cases eg : g (.d ds[i]) Sx with
        | bad => rw [eg] at eq; cases eq
        | exc x S' => rw [eg] at eq; cases eq
        | ok u S4 =>
          rw [eg] at eq
          simp only at eq
          intro σ4 F4 H4 n4 m4
          have ew : L2.wipe σ4 vs = L2.wipe σ vs := by
            have := wipe_fix (σ2 := σ4) (σ := L2.wipe σ vs) (vs := vs) n4.fix n4.ln
            rw [wipe_wipe] at this
            exact this
          refine ⟨ew, ht (L2.wipe σ vs) F3 H3 Sx σ4 H4 _ ⟨F4, S4, n4.rel, ?_⟩⟩
          -- where Da stands in each later state of this turn
          have keep : ∀ {σ5 : St} {F5 H5 : Hp} {S5 : Sl}, Step c.K (fxv vs) (L2.wipe σ vs) F3 H3 Sx σ5 F5 H5 S5 → H5 Da = some (.lst vacc) ∧ F5 Da = none ∧ ¬ Own σ5 S5 Da := fun {σ5 F5 H5 S5} n5 => by
            refine ⟨n5.frame _ _ hDa3 noD, ?_, fun z => ?_⟩
            · cases qq : F5 Da with
              | none => rfl
              | some u =>
                rcases n5.grow Da u qq with z | z | z
                · rcases gr.gr Da u z with y | y
                  · rw [fDa] at y; cases y
                  · rw [hDa] at y; cases y
                · rw [hDa3] at z; cases z
                · exact absurd z noD
            · rcases n5.ownA Da z with y | y
              · exact noD y
              · rw [hDa3] at y; cases y
          have sall : ∀ {σ5 : St} {F5 H5 : Hp} {S5 : Sl}, Step c.K (fxv vs) (L2.wipe σ vs) F3 H3 Sx σ5 F5 H5 S5 → L2.wipe σ5 vs = L2.wipe σ vs → Step c.K (fxv vs) (L2.wipe σ vs) F1 H1 (wipeS S1 vs) (L2.wipe σ vs) F5 H5 (wipeS S5 vs) := fun {σ5 F5 H5 S5} n5 e5 =>
            Step.wipe (σ0 := L2.wipe σ vs) ((st.trans n3).trans n5) (by rw [e5, wipe_wipe]) wipe_wipe
          cases ep : p S4 with
          | bad => rw [ep] at eq; cases eq
          | exc x S' => rw [ep] at eq; cases eq
          | ok t S5 =>
            rw [ep] at eq
            intro t' F5 H5 n5 et
            have et' : t' = t := et
            subst et'
            have n45 := n4.trans n5
            cases t' with
            | false =>
              refine iteF ?_
              simp only at eq
              obtain ⟨k1, k2, k3⟩ := keep n45
              refine ⟨by omega, F5, wipeS S5 vs, acc, vacc, sall n45 ew, k1, rva.mono (gr.fm.trans n45.mono), k2, fun z => k3 ?_, eq⟩
              obtain ⟨j, k, e1, e2⟩ := z
              obtain ⟨a1, a2⟩ := wipeS_get e1
              exact ⟨j, k, a1, by rw [← wipe_out (σ := σ4) a2, ew]; exact e2⟩
            | true =>
              refine iteT ?_
              simp only [bnd] at eq
              refine he (L2.wipe σ vs) F3 H3 Sx σ4 H5 _ ⟨F5, S5, n45.rel, ?_⟩
              cases ef : f S5 with
              | bad => rw [ef] at eq; cases eq
              | exc x S' => rw [ef] at eq; cases eq
              | ok a S6 =>
                rw [ef] at eq
                simp only at eq
                intro w F6 H6 n6 ra
                cases ed : toD a S6 with
                | bad => rw [ed] at eq; cases eq
                | exc x S' => exact absurd ed toD_exc
                | ok y S7 =>
                  rw [ed] at eq
                  simp only at eq
                  obtain ⟨F7, n7, m7, rvy, _⟩ := toD_ok n6 ra ed
                  have n57 := n45.trans n7
                  obtain ⟨k1, k2, k3⟩ := keep n57
                  split at eq
                  · rename_i hl
                    have hvl : vacc.length = acc.length := rva.length
                    refine ⟨vacc, k1, by rw [hvl]; exact Nat.lt_of_lt_of_le hl lim_le, by omega, F7, wipeS S7 vs, acc ++ [y], vacc ++ [w], ?_, upd_same, (rva.mono (gr.fm.trans n57.mono)).append (.cons rvy .nil), k2, fun z => k3 ?_, eq⟩
                    · -- the list grows
                      have b := sall n57 ew
                      refine ⟨⟨fun b' o e => ?_, fun j r h => ?_, b.rel.inj, b.rel.len⟩, b.mono, fun b' o e m => ?_, fun b' o e => ?_, b.grow, b.own, b.fix, b.ln⟩
                      · by_cases hb : b' = Da
                        · subst hb; rw [k2] at e; cases e
                        · rw [upd_ne hb]; exact b.rel.sub b' o e
                      · obtain ⟨v, e1, ro⟩ := b.rel.sl j r h
                        refine ⟨v, e1, ?_⟩
                        cases r with
                        | d x => exact ro
                        | own k =>
                          obtain ⟨pa, e2, fpa, rc⟩ := ro
                          refine ⟨pa, e2, fpa, rc.mono (Same.refl _) fun o e => ?_⟩
                          have hb : pa ≠ Da := fun z => by
                            subst z
                            obtain ⟨h1, h2⟩ := wipeS_get h
                            refine k3 ⟨j, k, h1, ?_⟩
                            rw [← wipe_out (σ := σ4) h2, ew, e1, e2]
                          rw [upd_ne hb]
                          exact e
                      · by_cases hb : b' = Da
                        · subst hb; rw [hD] at e; cases e
                        · rw [upd_ne hb]; exact b.frame b' o e m
                      · by_cases hb : b' = Da
                        · exact ⟨_, by rw [hb]; exact upd_same⟩
                        · rw [upd_ne hb]; exact b.there b' o e
                    · obtain ⟨j, k, e1, e2⟩ := z
                      obtain ⟨a1, a2⟩ := wipeS_get e1
                      exact ⟨j, k, a1, by rw [← wipe_out (σ := σ4) a2, ew]; exact e2⟩
                  · cases eq
      · have e : i = ds.length := by omega
        subst e
        rw [List.drop_length] at eq
        cases eq
        exact .inl ⟨stop, fin st hDa rva fDa noD⟩
end
end FR

namespace FR
open PySem PySem.Spec L2 RZ _root_.RT

theorem PG.ex {α : Type} {X : Cx} {e : Expr} {t : α → TG} (h : ∀ a, PG X e (t a)) : PG X e (fun v σ H Q => ∃ a, t a v σ H Q) := ⟨fun pins s σ H v u Q I r ⟨a, q⟩ => (h a).run pins s σ H v u Q I r q⟩
theorem PE.ex {α : Type} {X : Cx} {e : Expr} {t : α → TE} (h : ∀ a, PE X e (t a)) : PE X e (fun σ H Q => ∃ a, t a σ H Q) := ⟨fun pins s σ H Q I ⟨a, q⟩ => (h a).run pins s σ H Q I q⟩
theorem PTs.ex {α : Type} {X : Cx} {e : List Expr} {t : α → TT} (h : ∀ a, PTs X e (t a)) : PTs X e (fun σ H Q => ∃ a, t a σ H Q) := ⟨fun pins s σ H Q I ⟨a, q⟩ => (h a).run pins s σ H Q I q⟩
section
variable {X : Cx} {c : Ct} {e elt tg iter : Expr} {ifs : List Expr} {scope : Scope} {own : List (Str × Nat)} {vs : List Nat} {s : Mn (List D)} {g : O → Mn Unit} {p : Mn Bool} {f : Mn A} {pos : Pos}
@[simp] def yesB : Mn Bool := ret true
theorem hts_nil : PTs X [] (TB c yesB) := ⟨fun pins s σ H Q I q => pts_nil.run pins s σ H Q I (by
  obtain ⟨F, S, R0, q⟩ := q
  exact q true F H (Step.refl R0) rfl)⟩
theorem hts_one {t : Expr} (h : PT X t (TB c p)) : PTs X [t] (TB c p) := pts_one h
/-- the block of a comprehension, whatever its start -/
structure Blk (X : Cx) (c : Ct) (vs : List Nat) (tg elt : Expr) (ifs : List Expr) (scope : Scope) (g : O → Mn Unit) (p : Mn Bool) (f : Mn A) : Prop where
  g : ∀ (s : Shared) (H : Hp) (C : Addr) (cl : List (Str × Addr)) (fp : List Addr) (σ : St) (F H' : Hp) (S : Sl), PG (X.blk s H scope (compEnvC scope cl C X.env) fp) tg (tG (ctB c vs σ F H' S) g)
  t : ∀ (s : Shared) (H : Hp) (C : Addr) (cl : List (Str × Addr)) (fp : List Addr) (σ : St) (F H' : Hp) (S : Sl), PTs (X.blk s H scope (compEnvC scope cl C X.env) fp) ifs (TB (ctB c vs σ F H' S) p)
  e : ∀ (s : Shared) (H : Hp) (C : Addr) (cl : List (Str × Addr)) (fp : List Addr) (σ : St) (F H' : Hp) (S : Sl), PE (X.blk s H scope (compEnvC scope cl C X.env) fp) elt (T (ctB c vs σ F H' S) f)
theorem t_comp' (σ : St) (H : Hp) (Q : VK) (q : T c (compA vs s g p f) σ H Q) : tLc (TIt c s) (fun v σ' H' Q => ∃ a : St × Hp × Hp × Sl, tG (ctB c vs a.1 a.2.1 a.2.2.1 a.2.2.2) g v σ' H' Q) (fun σ' H' Q => ∃ a : St × Hp × Hp × Sl, TB (ctB c vs a.1 a.2.1 a.2.2.1 a.2.2.2) p σ' H' Q) (fun σ' H' Q => ∃ a : St × Hp × Hp × Sl, T (ctB c vs a.1 a.2.1 a.2.2.1 a.2.2.2) f σ' H' Q) vs σ H Q :=
  t_comp (fun _ _ _ q => q) (fun σ F H S v σ' H' Q q => ⟨(σ, F, H, S), q⟩) (fun σ F H S σ' H' Q q => ⟨(σ, F, H, S), q⟩) (fun σ F H S σ' H' Q q => ⟨(σ, F, H, S), q⟩) σ H Q q
theorem he_comp (hc : X.calm = true) (hN : X.N.Nodup) (hi : PI X tg iter (TIt c s)) (ok : BlkOk X.N X.env.scope scope own) (hv : own.map (·.2) = vs) (b : Blk X c vs tg elt ifs scope g p f)
    (hs : ∀ x, foldedSetIterable iter X.env x = pure x := by intro _; rfl) : PE X (.ListComp elt [⟨tg, iter, ifs, 0⟩] scope pos) (T c (compA vs s g p f)) := by
  subst hv
  exact PE.mono (pe_lc hc hN hi ok (fun s H C cl fp => PG.ex fun a => b.g s H C cl fp a.1 a.2.1 a.2.2.1 a.2.2.2) (fun s H C cl fp => PTs.ex fun a => b.t s H C cl fp a.1 a.2.1 a.2.2.1 a.2.2.2) (fun s H C cl fp => PE.ex fun a => b.e s H C cl fp a.1 a.2.1 a.2.2.1 a.2.2.2) hs) t_comp'
/-- name = e, by the reading of e -/
theorem t_set {i : Nat} {te : TE} (m : ∀ σ H Q, T c f σ H Q → te σ H Q) (hf : c.fx i = false) {D : Ends} {σ : St} {H : Hp} (q : tS c (asgS (gN i) f) D σ H) : tAsg te (gName i) D σ H := by
  obtain ⟨F, S, n, q⟩ := q
  refine m σ H _ (t_vl σ H _ (G.imp (Sat.bind n q) fun v H1 ⟨a, F1, S1, n1, st, ra, q1⟩ => ?_))
  cases a with
  | sl i => exact q1.elim
  | v r => exact q1 _ F1 H1 (n1.store (RT.older ra n) i hf) st.mono
theorem hs_setLc {i : Nat} {y : Str} {py spos : Pos} (hc : X.calm = true) (hN : X.N.Nodup) (hy : X.N[i]? = some y) (hyl : X.env.scope.names.lookup y = some .local) (hsw : swapsWith (.ListComp elt [⟨tg, iter, ifs, 0⟩] scope pos) (some (.Name y py)) spos.line X.env = pure true)
    (hi : PI X tg iter (TIt c s)) (ok : BlkOk X.N X.env.scope scope own) (hv : own.map (·.2) = vs) (b : Blk X c vs tg elt ifs scope g p f) (hf : c.fx i = false := by rfl) (hs : ∀ x, foldedSetIterable iter X.env x = pure x := by intro _; rfl) :
    PS X (.Assign [.Name y py] (.ListComp elt [⟨tg, iter, ifs, 0⟩] scope pos) spos) (tS c (asgS (gN i) (compA vs s g p f))) := by
  subst hv
  exact PS.mono (ps_setLc hc hN hy hyl hsw hi ok (fun s H C cl fp => PG.ex fun a => b.g s H C cl fp a.1 a.2.1 a.2.2.1 a.2.2.2) (fun s H C cl fp => PTs.ex fun a => b.t s H C cl fp a.1 a.2.1 a.2.2.1 a.2.2.2) (fun s H C cl fp => PE.ex fun a => b.e s H C cl fp a.1 a.2.1 a.2.2.1 a.2.2.2) hs) fun D σ H q => t_set t_comp' hf q
end

/-! ### a slot's cell is changed -/
section
variable {K : PySem.W.Frag} {fx : Nat → Bool} {σ : St} {F H : Hp} {S : Sl}
theorem Step.mut {i : Nat} {k k' : C} {p : Addr} {o : HO} (R : Rel K F H σ S) (e : S[i]? = some (some (.own k))) (ev : σ[i]? = some (some (.ref p))) (rc : RC K F (upd H p o) p k') : Step K fx σ F H S σ F (upd H p o) (S.set i (some (.own k'))) := by
  obtain ⟨u, e1, p', e2, f, rc0⟩ := R.sl i _ e
  rw [ev] at e1
  cases e1
  cases e2
  have hi : i < S.length := by
    rcases Nat.lt_or_ge i S.length with h | h
    · exact h
    · rw [List.getElem?_eq_none h] at e; cases e
  have ow : Own σ S p := ⟨i, k, e, ev⟩
  have key : ∀ {j : Nat} {r : O}, (S.set i (some (.own k')))[j]? = some (some r) → (i = j ∧ r = .own k') ∨ (i ≠ j ∧ S[j]? = some (some r)) := fun {j r} h => by
    by_cases hj : i = j
    · subst hj; rw [List.getElem?_set_self hi] at h; cases h; exact .inl ⟨rfl, rfl⟩
    · rw [List.getElem?_set_ne hj] at h; exact .inr ⟨hj, h⟩
  have was : ∀ {j : Nat} {c : C}, (S.set i (some (.own k')))[j]? = some (some (O.own c)) → ∃ c0, S[j]? = some (some (O.own c0)) := fun {j c} h => by
    rcases key h with ⟨rfl, _⟩ | ⟨_, h⟩
    · exact ⟨k, e⟩
    · exact ⟨c, h⟩
  refine ⟨⟨fun b x q => ?_, fun j r h => ?_, fun j l c c' a q1 q2 q3 q4 => ?_, by rw [List.length_set]; exact R.len⟩, Same.refl _, fun b x q m => ?_, fun b x q => ?_, fun b x q => .inl q, fun j c b q1 q2 => ?_, fun _ _ => rfl, rfl⟩
  · by_cases hb : b = p
    · subst hb; rw [f] at q; cases q
    · rw [upd_ne hb]; exact R.sub b x q
  · rcases key h with ⟨rfl, rfl⟩ | ⟨hj, h⟩
    · exact ⟨_, ev, p, rfl, f, rc⟩
    · obtain ⟨v, e3, ro⟩ := R.sl j r h
      refine ⟨v, e3, ?_⟩
      cases r with
      | d x => exact ro
      | own c =>
        obtain ⟨q, e4, f', rc'⟩ := ro
        refine ⟨q, e4, f', rc'.mono (Same.refl _) fun o h2 => ?_⟩
        have hq : q ≠ p := fun z => hj (R.inj i j k c p e h ev (by rw [e3, e4, z]))
        rw [upd_ne hq]
        exact h2
  · obtain ⟨c1, y1⟩ := was q1
    obtain ⟨c2, y2⟩ := was q2
    exact R.inj j l c1 c2 a y1 y2 q3 q4
  · have hb : b ≠ p := fun z => m (z ▸ ow)
    rw [upd_ne hb]
    exact q
  · by_cases hb : b = p
    · exact ⟨_, by rw [hb]; exact upd_same⟩
    · exact ⟨x, by rw [upd_ne hb]; exact q⟩
  · obtain ⟨c0, y⟩ := was q1
    exact .inl ⟨c0, y, q2⟩
end
/-- a slot's own cell: what it holds -/
@[simp] def ownL (S : Sl) (i : Nat) : Option (List D) := match S[i]? with
  | some (some (.own (.lst xs))) => some xs
  | _ => none
theorem ownL_iff {S : Sl} {i : Nat} {xs : List D} : ownL S i = some xs ↔ S[i]? = some (some (.own (.lst xs))) := by
  unfold ownL
  constructor
  · intro h
    split at h
    · rename_i ys e
      cases h
      exact e
    · cases h
  · intro h
    rw [h]
theorem ownL_rel {K : PySem.W.Frag} {F H : Hp} {σ : St} {S : Sl} {i : Nat} {xs : List D} {v : V} (R : Rel K F H σ S) (h : ownL S i = some xs) (ev : σ[i]? = some (some v)) : ∃ p vs, v = .ref p ∧ H p = some (.lst vs) ∧ RVs K F vs xs := by
  obtain ⟨u, e1, p, e2, _, vs, e3, e4⟩ := R.sl i _ (ownL_iff.mp h)
  rw [ev] at e1
  cases e1
  exact ⟨p, vs, e2, e3, e4⟩
/-- x.append(e), x in slot i -/
@[simp] def apnd (i : Nat) (f : Mn A) : Mn A := fun S0 => match ownL S0 i with
  | some _ => bnd f (fun a => bnd (toD a) fun d S => match ownL S i with
    | some xs => if xs.length < lim then .ok (.v (.d .non)) (S.set i (some (.own (.lst (xs ++ [d]))))) else .bad
    | none => .bad) S0
  | none => .bad
/-- x.pop() -/
@[simp] def popE (i : Nat) : Mn A := fun S => match ownL S i with
  | some xs => match xs[xs.length - 1]? with
    | some d => .ok (.v (.d d)) (S.set i (some (.own (.lst xs.dropLast))))
    | none => .bad
  | none => .bad
/-- x.pop(e) -/
@[simp] def popAt (i : Nat) (f : Mn A) : Mn A := fun S0 => match ownL S0 i with
  | some _ => bnd f (fun a S => match view a S with
    | some (.d (.int j)) => match ownL S i with
      | some xs => if i62 j then (match seqIndex? j xs.length with
        | some n => match xs[n]? with
          | some d => .ok (.v (.d d)) (S.set i (some (.own (.lst (xs.eraseIdx n)))))
          | none => .bad
        | none => .bad) else .bad
      | none => .bad
    | _ => .bad) S0
  | none => .bad
/-- a slot's own dict -/
@[simp] def ownK (S : Sl) (i : Nat) : Option (List (Key × D)) := match S[i]? with
  | some (some (.own (.dk xs))) => some xs
  | _ => none
@[simp] def ownT (S : Sl) (i : Nat) : Option (List (List Key × D)) := match S[i]? with
  | some (some (.own (.dt xs))) => some xs
  | _ => none
/-- x[k] = d, x in slot i -/
@[simp] def putIx (i : Nat) (k : O) (d : D) : Mn Unit := fun S => match S[i]? with
  | some (some (.own (.lst xs))) => match k with
    | .d (.int j) => match ixN xs.length j with
      | some n => .ok () (S.set i (some (.own (.lst (xs.set n d)))))
      | none => .bad
    | _ => .bad
  | some (some (.own (.dk xs))) => match k with
    | .d x => match keyOf x with
      | some q => if xs.length < lim then .ok () (S.set i (some (.own (.dk (putD xs q d))))) else .bad
      | none => .bad
    | _ => .bad
  | some (some (.own (.dt xs))) => match k with
    | .d x => match tkeyOf x with
      | some q => if xs.length < lim then .ok () (S.set i (some (.own (.dt (putD xs q d))))) else .bad
      | none => .bad
    | _ => .bad
  | _ => .bad
@[simp] def seen (i : Nat) : Mn Unit := fun S => if isOwn S[i]? then .ok () S else .bad
@[simp] def setIx (i : Nat) (fk fv : Mn A) : Mn Out := bnd fv fun a => bnd (toD a) fun d => bnd (seen i) fun _ => bnd fk fun b S => match view b S with
  | some k => bnd (putIx i k d) (fun _ => ret .nx) S
  | none => .bad
section
variable {X : Cx} {c : Ct} {e o : Expr} {f fk fv : Mn A} {pos : Pos}
theorem toD_at {σ : St} {F0 H0 F H : Hp} {S0 S S2 : Sl} {v : V} {a : A} {d : D} (s : Step c.K c.fx σ F0 H0 S0 σ F H S) (ra : RA c.K H0 σ F H S v a) (e : toD a S = .ok d S2) : ∃ F', Step c.K c.fx σ F0 H0 S0 σ F' H S2 ∧ Same F F' ∧ RV c.K F' v d := by
  obtain ⟨F', s', m, rv, _⟩ := toD_ok s ra e
  exact ⟨F', s', m, rv⟩
theorem ownL_slot {σ : St} {F H : Hp} {S : Sl} {i : Nat} {xs : List D} (R0 : Rel c.K F H σ S) (h : ownL S i = some xs) : ∃ p vs, σ[i]? = some (some (.ref p)) ∧ H p = some (.lst vs) ∧ RVs c.K F vs xs := by
  obtain ⟨u, e1, p, e2, _, vs, e3, e4⟩ := R0.sl i _ (ownL_iff.mp h)
  subst e2
  exact ⟨p, vs, e1, e3, e4⟩
theorem t_apnd {i : Nat} (σ : St) (H : Hp) (Q : VK) (q : T c (apnd i f) σ H Q) : tBM c.K "list" rAppend (tVar i) (tCons (T c f) tNil) σ H Q := by
  obtain ⟨F0, S0, R0, q⟩ := q
  simp only [apnd] at q
  cases e0 : ownL S0 i with
  | none => rw [e0] at q; exact q.elim
  | some xs0 =>
    rw [e0] at q
    obtain ⟨p, vs0, ev, hp, _⟩ := ownL_slot R0 e0
    refine ⟨.ref p, ev, .inl ⟨rfl, _, .inl (.inl hp)⟩, G.imp (Gat.bind (RR := RA c.K) (Step.refl R0) q) fun v H1 ⟨a, F1, S1, s1, _, ra, g1⟩ => ?_⟩
    simp only [bnd] at g1
    cases ed : toD a S1 with
    | bad => rw [ed] at g1; exact g1.elim
    | exc x S' => exact absurd ed toD_exc
    | ok d S2 =>
      rw [ed] at g1
      simp only at g1
      obtain ⟨F2, s2, m2, rv⟩ := toD_at s1 ra ed
      cases e2 : ownL S2 i with
      | none => rw [e2] at g1; exact g1.elim
      | some xs =>
        rw [e2] at g1
        simp only at g1
        split at g1
        · rename_i hl
          obtain ⟨p', vs, ev', hp', rvs⟩ := ownL_slot s2.rel e2
          rw [ev] at ev'
          cases ev'
          refine ⟨p, vs, v, rfl, rfl, hp', by rw [rvs.length]; exact Nat.lt_of_lt_of_le hl lim_le, ?_⟩
          have st := Step.mut (fx := c.fx) (o := .lst (vs ++ [v])) (k' := .lst (xs ++ [d])) s2.rel (ownL_iff.mp e2) ev ⟨_, upd_same, rvs.append (.cons rv .nil)⟩
          exact g1 .non F2 _ (s2.trans st) .non
        · exact g1.elim
theorem t_popE {i : Nat} (σ : St) (H : Hp) (Q : VK) (q : T c (popE i) σ H Q) : tBM0 c.K "list" rPop (tVar i) σ H Q := by
  obtain ⟨F0, S0, R0, q⟩ := q
  simp only [popE] at q
  cases e0 : ownL S0 i with
  | none => rw [e0] at q; exact q.elim
  | some xs =>
    rw [e0] at q
    simp only at q
    obtain ⟨p, vs, ev, hp, rvs⟩ := ownL_slot R0 e0
    cases ex : xs[xs.length - 1]? with
    | none => rw [ex] at q; exact q.elim
    | some d =>
      rw [ex] at q
      obtain ⟨u, eu, ru⟩ := rvs.get ex
      refine ⟨.ref p, ev, .inl ⟨rfl, _, .inl (.inl hp)⟩, p, vs, u, rfl, rfl, hp, by rw [rvs.length]; exact eu, ?_⟩
      have st := Step.mut (fx := c.fx) (o := .lst vs.dropLast) (k' := .lst xs.dropLast) R0 (ownL_iff.mp e0) ev ⟨_, upd_same, by rw [List.dropLast_eq_take, List.dropLast_eq_take, rvs.length]; exact rvs.take _⟩
      exact q u F0 _ st ru
theorem t_popAt {i : Nat} (σ : St) (H : Hp) (Q : VK) (q : T c (popAt i f) σ H Q) : tBM c.K "list" rPopAt (tVar i) (tCons (T c f) tNil) σ H Q := by
  obtain ⟨F0, S0, R0, q⟩ := q
  simp only [popAt] at q
  cases e0 : ownL S0 i with
  | none => rw [e0] at q; exact q.elim
  | some xs0 =>
    rw [e0] at q
    obtain ⟨p, vs0, ev, hp, _⟩ := ownL_slot R0 e0
    refine ⟨.ref p, ev, .inl ⟨rfl, _, .inl (.inl hp)⟩, G.imp (Gat.bind (RR := RA c.K) (Step.refl R0) q) fun v H1 ⟨a, F1, S1, s1, _, ra, g1⟩ => ?_⟩
    split at g1
    · rename_i j hj
      have hv := RO.int (ra.ro s1.rel hj)
      subst hv
      cases e2 : ownL S1 i with
      | none => rw [e2] at g1; exact g1.elim
      | some xs =>
        rw [e2] at g1
        simp only at g1
        split at g1
        · rename_i hb
          simp only [i62, Bool.and_eq_true, decide_eq_true_eq] at hb
          cases en : seqIndex? j xs.length with
          | none => rw [en] at g1; exact g1.elim
          | some n =>
            rw [en] at g1
            simp only at g1
            cases ex : xs[n]? with
            | none => rw [ex] at g1; exact g1.elim
            | some d =>
              rw [ex] at g1
              obtain ⟨p', vs, ev', hp', rvs⟩ := ownL_slot s1.rel e2
              rw [ev] at ev'
              cases ev'
              obtain ⟨u, eu, ru⟩ := rvs.get ex
              refine ⟨p, vs, j, n, u, rfl, rfl, hp', by omega, by omega, by rw [rvs.length]; exact en, eu, ?_⟩
              have st := Step.mut (fx := c.fx) (o := .lst (vs.eraseIdx n)) (k' := .lst (xs.eraseIdx n)) s1.rel (ownL_iff.mp e2) ev ⟨_, upd_same, rvs.eraseIdx n⟩
              exact g1 u F1 _ (s1.trans st) ru
        · exact g1.elim
    · exact g1.elim
theorem own_slot {σ : St} {F H : Hp} {S : Sl} {i : Nat} {k : C} (R0 : Rel c.K F H σ S) (h : S[i]? = some (some (.own k))) : ∃ p, σ[i]? = some (some (.ref p)) ∧ RC c.K F H p k := by
  obtain ⟨u, e1, p, e2, _, rc⟩ := R0.sl i _ h
  subst e2
  exact ⟨p, e1, rc⟩
/-- what a store at a slot asks, by what stands there -/
theorem t_setIx {i : Nat} {D0 : Ends} {σ : St} {H : Hp} (q : tS c (setIx i fk fv) D0 σ H) : tAsg (T c fv) (gSub (tVar i) (T c fk) rSetL) D0 σ H ∨ sDPut (tVar i) (T c fk) (T c fv) D0 σ H := by
  obtain ⟨F0, S0, n0, q⟩ := q
  simp only [setIx, bnd, seen] at q
  cases e1 : fv S0 with
  | bad => rw [e1] at q; exact q.elim
  | exc x S' => rw [e1] at q; exact .inl ⟨F0, S0, n0.rel, by rw [e1]; exact fun F' H' cv dx st rx => q σ F' H' cv dx (n0.trans st) rx⟩
  | ok a S1 =>
    rw [e1] at q
    simp only at q
    cases ed : toD a S1 with
    | bad => rw [ed] at q; exact q.elim
    | exc x S' => exact absurd ed toD_exc
    | ok d S2 =>
      rw [ed] at q
      simp only at q
      cases eo : isOwn S2[i]? with
      | false => rw [eo] at q; exact q.elim
      | true =>
        rw [eo] at q
        simp only [if_true] at q
        obtain ⟨k0, ek0⟩ := isOwn_iff.mp eo
        cases e2 : fk S2 with
        | bad => rw [e2] at q; exact q.elim
        | exc x S' =>
          rw [e2] at q
          refine .inl ⟨F0, S0, n0.rel, ?_⟩
          rw [e1]
          intro v F1 H1 s1 ra
          obtain ⟨F2, s2, m2, rv⟩ := toD_at s1 ra ed
          obtain ⟨p, ep, _⟩ := own_slot s2.rel ek0
          refine ⟨_, ep, F2, S2, s2.rel, ?_⟩
          rw [e2]
          exact fun F' H' cv dx st rx => q σ F' H' cv dx (n0.trans (s2.trans st)) rx
        | ok b S3 =>
          rw [e2] at q
          simp only at q
          cases ek : view b S3 with
          | none => rw [ek] at q; exact q.elim
          | some k =>
            rw [ek] at q
            simp only at q
            -- behind value and key
            have go : ∀ {W : V → V → Hp → Prop}, (∀ v w F3 H3, Step c.K c.fx σ F0 H S0 σ F3 H3 S3 → RV c.K F3 v d → RO c.K F3 H3 w k → W v w H3) → ∀ v F1 H1, Step c.K c.fx σ F0 H S0 σ F1 H1 S1 → RA c.K H σ F1 H1 S1 v a → (∃ p, σ[i]? = some (some (.ref p))) ∧ T c fk σ H1 fun w H3 => W v w H3 := fun {W} m v F1 H1 s1 ra => by
              obtain ⟨F2, s2, m2, rv⟩ := toD_at s1 ra ed
              obtain ⟨p, ep, _⟩ := own_slot s2.rel ek0
              refine ⟨⟨p, ep⟩, F2, S2, s2.rel, ?_⟩
              rw [e2]
              exact fun w F3 H3 s3 rb => m v w F3 H3 (s2.trans s3) (rv.mono s3.mono) (rb.ro s3.rel ek)
            cases ec : S3[i]? with
            | none => simp only [putIx, ec] at q; exact q.elim
            | some z =>
              cases z with
              | none => simp only [putIx, ec] at q; exact q.elim
              | some r =>
                cases r with
                | d x => simp only [putIx, ec] at q; exact q.elim
                | own kk =>
                  cases kk with
                  | lst xs =>
                    simp only [putIx, ec] at q
                    split at q
                    · rename_i u S' hq
                      split at hq
                      · rename_i j
                        split at hq
                        · rename_i n hn
                          cases hq
                          refine .inl ⟨F0, S0, n0.rel, ?_⟩
                          rw [e1]
                          intro v F1 H1 s1 ra
                          obtain ⟨⟨p, ep⟩, _⟩ := go (W := fun _ _ _ => True) (fun _ _ _ _ _ _ _ => trivial) v F1 H1 s1 ra
                          refine ⟨_, ep, (go (W := fun v w H3 => rSetL (.ref p) w v H3 fun H4 => D0.nx σ H4) (fun v' w F3 H3 s3 rv rw' => ?_) v F1 H1 s1 ra).2⟩
                          obtain ⟨p', ep', vs, hp', rvs⟩ := own_slot s3.rel ec
                          rw [ep] at ep'
                          cases ep'
                          refine ⟨p, vs, j, n, rfl, RO.int rw', hp', by rw [rvs.length]; exact hn, ?_⟩
                          have st := Step.mut (fx := c.fx) (o := .lst (vs.set n v')) (k' := .lst (xs.set n d)) s3.rel ec ep ⟨_, upd_same, rvs.set n rv⟩
                          exact q σ F3 _ (n0.trans (s3.trans st)) (s3.trans st).mono
                        · cases hq
                      · cases hq
                    · rename_i x S' hq
                      split at hq
                      · split at hq <;> cases hq
                      · cases hq
                    · exact q.elim
                  | dk xs =>
                    simp only [putIx, ec] at q
                    split at q
                    · rename_i u S' hq
                      split at hq
                      · rename_i x
                        split at hq
                        · rename_i j hj
                          split at hq
                          · rename_i hl
                            cases hq
                            refine .inr ⟨F0, S0, n0.rel, ?_⟩
                            rw [e1]
                            intro v F1 H1 s1 ra
                            obtain ⟨⟨p, ep⟩, _⟩ := go (W := fun _ _ _ => True) (fun _ _ _ _ _ _ _ => trivial) v F1 H1 s1 ra
                            refine ⟨_, ep, (go (W := fun v w H3 => ∃ a H4, V.ref p = .ref a ∧ DPut H3 a w v H4 ∧ D0.nx σ H4) (fun v' w F3 H3 s3 rv rw' => ?_) v F1 H1 s1 ra).2⟩
                            obtain ⟨p', ep', vs, hp', rvs⟩ := own_slot s3.rel ec
                            rw [ep] at ep'
                            cases ep'
                            have st := Step.mut (fx := c.fx) (o := .dK (putK vs j v')) (k' := .dk (putD xs j d)) s3.rel ec ep ⟨_, upd_same, rvs.put rv⟩
                            refine ⟨p, _, rfl, ?_, q σ F3 _ (n0.trans (s3.trans st)) (s3.trans st).mono⟩
                            rw [keyOf_ok rw' hj]
                            exact .k hp' (by rw [rvs.length]; exact Nat.lt_of_lt_of_le hl lim_le)
                          · cases hq
                        · cases hq
                      · cases hq
                    · rename_i x S' hq
                      split at hq
                      · split at hq
                        · split at hq <;> cases hq
                        · cases hq
                      · cases hq
                    · exact q.elim
                  | dt xs =>
                    simp only [putIx, ec] at q
                    split at q
                    · rename_i u S' hq
                      split at hq
                      · rename_i x
                        split at hq
                        · rename_i j hj
                          split at hq
                          · rename_i hl
                            cases hq
                            refine .inr ⟨F0, S0, n0.rel, ?_⟩
                            rw [e1]
                            intro v F1 H1 s1 ra
                            obtain ⟨⟨p, ep⟩, _⟩ := go (W := fun _ _ _ => True) (fun _ _ _ _ _ _ _ => trivial) v F1 H1 s1 ra
                            refine ⟨_, ep, (go (W := fun v w H3 => ∃ a H4, V.ref p = .ref a ∧ DPut H3 a w v H4 ∧ D0.nx σ H4) (fun v' w F3 H3 s3 rv rw' => ?_) v F1 H1 s1 ra).2⟩
                            obtain ⟨p', ep', vs, hp', rvs⟩ := own_slot s3.rel ec
                            rw [ep] at ep'
                            cases ep'
                            have st := Step.mut (fx := c.fx) (o := .dT (putK vs j v')) (k' := .dt (putD xs j d)) s3.rel ec ep ⟨_, upd_same, rvs.put rv⟩
                            obtain ⟨b', eb', hb'⟩ := tkeyOf_ok rw' hj
                            subst eb'
                            refine ⟨p, _, rfl, .t hp' (s3.rel.sub _ _ hb') (by rw [rvs.length]; exact Nat.lt_of_lt_of_le hl lim_le), q σ F3 _ (n0.trans (s3.trans st)) (s3.trans st).mono⟩
                          · cases hq
                        · cases hq
                      · cases hq
                    · rename_i x S' hq
                      split at hq
                      · split at hq
                        · split at hq <;> cases hq
                        · cases hq
                      · cases hq
                    · exact q.elim
end
end FR

namespace FR
open PySem PySem.Spec L2 RZ _root_.RT
/-! ### a comprehension over a slot's own list, which stays the slot's own -/
open Classical in
noncomputable def chkO (i : Nat) (xs : List D) : Mn Unit := fun S => if S[i]? = some (some (.own (.lst xs))) then .ok () S else .bad
noncomputable def compLo (i : Nat) (xs : List D) (vs : List Nat) (g : O → Mn Unit) (p : Mn Bool) (f : Mn A) : List D → List D → Mn (List D)
  | [], acc => bnd (chkO i xs) fun _ => ret acc
  | d :: ds, acc => bnd (chkO i xs) fun _ => bnd (g (.d d)) fun _ => bnd p fun t => match t with
    | true => bnd f fun a => bnd (toD a) fun y S => if acc.length < lim then compLo i xs vs g p f ds (acc ++ [y]) (wipeS S vs) else .bad
    | false => fun S => compLo i xs vs g p f ds acc (wipeS S vs)
noncomputable def compO (i : Nat) (vs : List Nat) (g : O → Mn Unit) (p : Mn Bool) (f : Mn A) : Mn A := fun S => match ownL S i with
  | some ds => match compLo i ds vs g p f ds [] (wipeS S vs) with
    | .ok acc S' => .ok (.v (.own (.lst acc))) (restS S vs S')
    | _ => .bad
  | none => .bad
section
variable {i : Nat} {xs : List D} {vs : List Nat} {g : O → Mn Unit} {p : Mn Bool} {f : Mn A} {S : Sl} {acc : List D}
theorem chkO_ok (h : S[i]? = some (some (.own (.lst xs)))) : chkO i xs S = .ok () S := by
  unfold chkO
  rw [if_pos h]
theorem chkO_no (h : ¬ S[i]? = some (some (.own (.lst xs)))) : chkO i xs S = .bad := by
  unfold chkO
  rw [if_neg h]
theorem compLo_chk {ds r : List D} {S' : Sl} (e : compLo i xs vs g p f ds acc S = .ok r S') : S[i]? = some (some (.own (.lst xs))) := by
  by_cases h : S[i]? = some (some (.own (.lst xs)))
  · exact h
  · cases ds with
    | nil =>
      unfold compLo at e
      simp only [bnd, chkO_no h] at e
      cases e
    | cons d ds =>
      unfold compLo at e
      simp only [bnd, chkO_no h] at e
      cases e
theorem compLo_nil (h : S[i]? = some (some (.own (.lst xs)))) : compLo i xs vs g p f [] acc S = .ok acc S := by
  unfold compLo
  simp only [bnd, chkO_ok h]
  rfl
theorem compLo_cons {d : D} {ds : List D} (h : S[i]? = some (some (.own (.lst xs)))) : compLo i xs vs g p f (d :: ds) acc S = bnd (g (.d d)) (fun _ => bnd p fun t => match t with
    | true => bnd f fun a => bnd (toD a) fun y S => if acc.length < lim then compLo i xs vs g p f ds (acc ++ [y]) (wipeS S vs) else .bad
    | false => fun S => compLo i xs vs g p f ds acc (wipeS S vs)) S := by
  rw [compLo]
  show bnd (chkO i xs) _ S = _
  simp only [bnd, chkO_ok h]
theorem realO {K : PySem.W.Frag} {F H : Hp} {a : Addr} {vs : List V} {ds : List D} (h : H a = some (.lst vs)) (r : RVs K F vs ds) (s : Same F H) : (∀ i, i < ds.length → (Itl K a).go i H) ∧ (Itl K a).stop ds.length H ∧ ∀ (i : Nat) (d : D) (x : V) (H' : Hp), ds[i]? = some d → (Itl K a).yld i H x H' → ∃ F', Grow F H F' H' ∧ RV K F' x d := by
  have hq : SqL K H a vs := .inl (.inl h)
  refine ⟨fun i hi => ?_, ⟨vs, hq, by rw [r.length]; exact Nat.le_refl _⟩, fun i d x H' e y => ?_⟩
  · obtain ⟨x, hx⟩ := r.go hi
    exact ⟨vs, x, hq, hx⟩
  · obtain ⟨rfl, y⟩ := y
    exact ⟨F, Grow.refl s, r.at_ e (y vs hq)⟩
theorem wipe_in {σ : St} {i : Nat} : ∀ {vs : List Nat}, i ∈ vs → (L2.wipe σ vs)[i]? = none ∨ (L2.wipe σ vs)[i]? = some none
  | u :: us, h => by
    show ((L2.wipe σ us).set u none)[i]? = none ∨ ((L2.wipe σ us).set u none)[i]? = some none
    by_cases hu : u = i
    · subst hu
      rcases Nat.lt_or_ge u (L2.wipe σ us).length with hl | hl
      · exact .inr (List.getElem?_set_self hl)
      · exact .inl (List.getElem?_eq_none (by rw [List.length_set]; exact hl))
    · rw [List.getElem?_set_ne hu]
      rcases List.mem_cons.mp h with z | z
      · exact absurd z.symm hu
      · exact wipe_in z
end
section
variable {X : Cx} {c : Ct} {i0 : Nat} {vs : List Nat} {g : O → Mn Unit} {p : Mn Bool} {f : Mn A}
theorem t_compO {gg : TG} {tt : TT} {te : TE} (hg : ∀ σ F H S, ∀ v σ' H' Q, tG (ctB c vs σ F H S) g v σ' H' Q → gg v σ' H' Q) (ht : ∀ σ F H S, ∀ σ' H' Q, TB (ctB c vs σ F H S) p σ' H' Q → tt σ' H' Q) (he : ∀ σ F H S, ∀ σ' H' Q, T (ctB c vs σ F H S) f σ' H' Q → te σ' H' Q)
    (σ : St) (H : Hp) (Q : VK) (q : T c (compO i0 vs g p f) σ H Q) : tLc (iList c.K (tVar i0)) gg tt te vs σ H Q := by
  obtain ⟨F1, S1, R0, q⟩ := q
  have s1 : Step c.K c.fx σ F1 H S1 σ F1 H S1 := Step.refl R0
  unfold compO at q
  cases eo : ownL S1 i0 with
  | none => rw [eo] at q; exact q.elim
  | some ds =>
  rw [eo] at q
  have q1 := q
  obtain ⟨p0, vs0, es0, hp0, rv0⟩ := ownL_slot R0 eo
  refine ⟨.ref p0, es0, p0, rfl, ⟨vs0, .inl (.inl hp0)⟩, ?_⟩
  have H1 := H
  intro Da hD
  dsimp only at q1
  cases ec : compLo i0 ds vs g p f ds [] (wipeS S1 vs) with
  | bad => rw [ec] at q1; exact q1.elim
  | exc x S' => rw [ec] at q1; exact q1.elim
  | ok accE SE =>
    rw [ec] at q1
    have R1 := s1.rel
    have fD : F1 Da = none := R1.sub.free hD
    have Rw : Rel c.K F1 H (L2.wipe σ vs) (wipeS S1 vs) := R1.wipe rfl
    -- from the block's start to the end
    have fin : ∀ {F2 H2 : Hp} {vacc : List V}, Step c.K (fxv vs) (L2.wipe σ vs) F1 H (wipeS S1 vs) (L2.wipe σ vs) F2 H2 SE → H2 Da = some (.lst vacc) → RVs c.K F2 vacc accE → F2 Da = none → ¬ Own (L2.wipe σ vs) SE Da → Q (.ref Da) H2 := fun {F2 H2 vacc} st h1 h2 h3 h4 => by
      have key : ∀ {i : Nat} {r : O}, (restS S1 vs SE)[i]? = some (some r) → (∃ x, r = .d x ∧ S1[i]? = some (some (.d x))) ∨ (SE[i]? = some (some r) ∧ (L2.wipe σ vs)[i]? = σ[i]? ∧ i ∉ vs) := fun {i r} h => by
        rcases restS_get h with z | ⟨z1, z2⟩
        · exact .inl z
        · exact .inr ⟨z2, wipe_out z1, z1⟩
      have st2 : Step c.K c.fx σ F1 H S1 σ F2 H2 (restS S1 vs SE) := by
        have toOwn : ∀ b, Own (L2.wipe σ vs) (wipeS S1 vs) b → Own σ S1 b := fun b ⟨i, k, e1, e2⟩ => by
          obtain ⟨a1, a2⟩ := wipeS_get e1
          exact ⟨i, k, a1, by rw [← wipe_out a2]; exact e2⟩
        refine ⟨⟨st.rel.sub, fun i r h => ?_, fun i j k k' a q1 q2 q3 q4 => ?_, ?_⟩, st.mono, fun b o e m => st.frame b o e fun z => m (toOwn b z), st.there, fun b o e => ?_, fun i k b e1 e2 => ?_, fun _ _ => rfl, rfl⟩
        · rcases key h with ⟨x, rfl, e⟩ | ⟨e, e2, _⟩
          · obtain ⟨v, e3, ro⟩ := R1.sl i _ e
            exact ⟨v, e3, RV.mono st.mono ro⟩
          · obtain ⟨v, e3, ro⟩ := st.rel.sl i r e
            exact ⟨v, by rw [← e2]; exact e3, ro⟩
        · rcases key q1 with ⟨x, e, _⟩ | ⟨e, e2, _⟩
          · cases e
          · rcases key q2 with ⟨x, e', _⟩ | ⟨e', e2', _⟩
            · cases e'
            · exact st.rel.inj i j k k' a e e' (by rw [e2]; exact q3) (by rw [e2']; exact q4)
        · rw [restS_len, st.rel.len, wipe_length]
        · rcases st.grow b o e with z | z | z
          · exact .inl z
          · exact .inr (.inl z)
          · exact .inr (.inr (toOwn b z))
        · rcases key e1 with ⟨x, e, _⟩ | ⟨e, e3, hi⟩
          · cases e
          · rcases st.own i k b e (by rw [e3]; exact e2) with ⟨k0, y1, y2⟩ | y
            · exact .inl ⟨k0, (wipeS_get y1).1, e2⟩
            · exact .inr y
      refine q1 _ F2 H2 (s1.trans st2) ⟨Da, rfl, h3, ⟨vacc, h1, h2⟩, fun ⟨i, k, e1, e2⟩ => ?_, s1.non0 hD⟩
      rcases key e1 with ⟨x, e, _⟩ | ⟨e, e3, _⟩
      · cases e
      · exact h4 ⟨i, k, e, by rw [e3]; exact e2⟩
    -- the invariant
    refine ⟨fun i m H2 => i + m = ds.length ∧ ∃ F2 Sx acc vacc, Step c.K (fxv vs) (L2.wipe σ vs) F1 H (wipeS S1 vs) (L2.wipe σ vs) F2 H2 Sx ∧ H2 Da = some (.lst vacc) ∧ RVs c.K F2 vacc acc ∧ F2 Da = none ∧ ¬ Own (L2.wipe σ vs) Sx Da ∧ compLo i0 ds vs g p f (ds.drop i) acc Sx = .ok accE SE,
      ⟨ds.length, by omega, F1, wipeS S1 vs, [], [], ?_, upd_same, .nil, fD, fun z => ?_, by rw [List.drop_zero]; exact ec⟩, fun i m H2 ⟨hm, F2, Sx, acc, vacc, st, hDa, rva, fDa, noD, eq⟩ => ?_⟩
    · exact (Grow.cell R1.sub hD).step Rw
    · obtain ⟨_, u, hu⟩ := Rw.own z
      rw [hD] at hu
      cases hu
    · have hck := compLo_chk eq
      obtain ⟨go, stop, yld⟩ : (∀ i, i < ds.length → (Itl c.K p0).go i H2) ∧ (Itl c.K p0).stop ds.length H2 ∧ ∀ (i : Nat) (d : D) (x : V) (H' : Hp), ds[i]? = some d → (Itl c.K p0).yld i H2 x H' → ∃ F', Grow F2 H2 F' H' ∧ RV c.K F' x d := by
        obtain ⟨p1, vs1, es1, hp1, rv1⟩ := ownL_slot st.rel (ownL_iff.mpr hck)
        have hi0 : i0 ∉ vs := fun z => by
          have := wipe_in (σ := σ) z
          rcases this with w | w
          · rw [w] at es1; cases es1
          · rw [w] at es1; cases es1
        rw [wipe_out hi0, es0] at es1
        cases es1
        exact realO hp1 rv1 st.rel.sub
      by_cases hi : i < ds.length
      · refine .inr ⟨go i hi, fun H3 => (i + 1) + (m - 1) = ds.length ∧ ∃ F2 Sx acc vacc, Step c.K (fxv vs) (L2.wipe σ vs) F1 H (wipeS S1 vs) (L2.wipe σ vs) F2 H3 Sx ∧ H3 Da = some (.lst vacc) ∧ RVs c.K F2 vacc acc ∧ F2 Da = none ∧ ¬ Own (L2.wipe σ vs) Sx Da ∧ compLo i0 ds vs g p f (ds.drop (i + 1)) acc Sx = .ok accE SE, fun H' h => ⟨m - 1, by omega, h⟩, fun x H3 y => ?_⟩
        obtain ⟨F3, gr, rv⟩ := yld i ds[i] x H3 (List.getElem?_eq_getElem hi) y
        have n3 := gr.step (fx := fxv vs) (σ := L2.wipe σ vs) st.rel
        have hDa3 : H3 Da = some (.lst vacc) := gr.hm _ _ hDa
        rw [List.drop_eq_getElem_cons hi] at eq
        rw [compLo_cons hck] at eq
        simp only [bnd] at eq
        refine hg (L2.wipe σ vs) F3 H3 Sx x (L2.wipe σ vs) H3 _ ⟨F3, Sx, .d ds[i], Step.refl n3.rel, rv, ?_⟩
        cases eg : g (.d ds[i]) Sx with
        | bad => rw [eg] at eq; cases eq
        | exc x S' => rw [eg] at eq; cases eq
        | ok u S4 =>
          rw [eg] at eq
          simp only at eq
          intro σ4 F4 H4 n4 m4
          have ew : L2.wipe σ4 vs = L2.wipe σ vs := by
            have := wipe_fix (σ2 := σ4) (σ := L2.wipe σ vs) (vs := vs) n4.fix n4.ln
            rw [wipe_wipe] at this
            exact this
          refine ⟨ew, ht (L2.wipe σ vs) F3 H3 Sx σ4 H4 _ ⟨F4, S4, n4.rel, ?_⟩⟩
          -- where Da stands in each later state of this turn
          have keep : ∀ {σ5 : St} {F5 H5 : Hp} {S5 : Sl}, Step c.K (fxv vs) (L2.wipe σ vs) F3 H3 Sx σ5 F5 H5 S5 → H5 Da = some (.lst vacc) ∧ F5 Da = none ∧ ¬ Own σ5 S5 Da := fun {σ5 F5 H5 S5} n5 => by
            refine ⟨n5.frame _ _ hDa3 noD, ?_, fun z => ?_⟩
            · cases qq : F5 Da with
              | none => rfl
              | some u =>
                rcases n5.grow Da u qq with z | z | z
                · rcases gr.gr Da u z with y | y
                  · rw [fDa] at y; cases y
                  · rw [hDa] at y; cases y
                · rw [hDa3] at z; cases z
                · exact absurd z noD
            · rcases n5.ownA Da z with y | y
              · exact noD y
              · rw [hDa3] at y; cases y
          have sall : ∀ {σ5 : St} {F5 H5 : Hp} {S5 : Sl}, Step c.K (fxv vs) (L2.wipe σ vs) F3 H3 Sx σ5 F5 H5 S5 → L2.wipe σ5 vs = L2.wipe σ vs → Step c.K (fxv vs) (L2.wipe σ vs) F1 H (wipeS S1 vs) (L2.wipe σ vs) F5 H5 (wipeS S5 vs) := fun {σ5 F5 H5 S5} n5 e5 =>
            Step.wipe (σ0 := L2.wipe σ vs) ((st.trans n3).trans n5) (by rw [e5, wipe_wipe]) wipe_wipe
          cases ep : p S4 with
          | bad => rw [ep] at eq; cases eq
          | exc x S' => rw [ep] at eq; cases eq
          | ok t S5 =>
            rw [ep] at eq
            intro t' F5 H5 n5 et
            have et' : t' = t := et
            subst et'
            have n45 := n4.trans n5
            cases t' with
            | false =>
              refine iteF ?_
              simp only at eq
              obtain ⟨k1, k2, k3⟩ := keep n45
              refine ⟨by omega, F5, wipeS S5 vs, acc, vacc, sall n45 ew, k1, rva.mono (gr.fm.trans n45.mono), k2, fun z => k3 ?_, eq⟩
              obtain ⟨j, k, e1, e2⟩ := z
              obtain ⟨a1, a2⟩ := wipeS_get e1
              exact ⟨j, k, a1, by rw [← wipe_out (σ := σ4) a2, ew]; exact e2⟩
            | true =>
              refine iteT ?_
              simp only [bnd] at eq
              refine he (L2.wipe σ vs) F3 H3 Sx σ4 H5 _ ⟨F5, S5, n45.rel, ?_⟩
              cases ef : f S5 with
              | bad => rw [ef] at eq; cases eq
              | exc x S' => rw [ef] at eq; cases eq
              | ok a S6 =>
                rw [ef] at eq
                simp only at eq
                intro w F6 H6 n6 ra
                cases ed : toD a S6 with
                | bad => rw [ed] at eq; cases eq
                | exc x S' => exact absurd ed toD_exc
                | ok y S7 =>
                  rw [ed] at eq
                  simp only at eq
                  obtain ⟨F7, n7, m7, rvy, _⟩ := toD_ok n6 ra ed
                  have n57 := n45.trans n7
                  obtain ⟨k1, k2, k3⟩ := keep n57
                  split at eq
                  · rename_i hl
                    have hvl : vacc.length = acc.length := rva.length
                    refine ⟨vacc, k1, by rw [hvl]; exact Nat.lt_of_lt_of_le hl lim_le, by omega, F7, wipeS S7 vs, acc ++ [y], vacc ++ [w], ?_, upd_same, (rva.mono (gr.fm.trans n57.mono)).append (.cons rvy .nil), k2, fun z => k3 ?_, eq⟩
                    · -- the list grows
                      have b := sall n57 ew
                      refine ⟨⟨fun b' o e => ?_, fun j r h => ?_, b.rel.inj, b.rel.len⟩, b.mono, fun b' o e m => ?_, fun b' o e => ?_, b.grow, b.own, b.fix, b.ln⟩
                      · by_cases hb : b' = Da
                        · subst hb; rw [k2] at e; cases e
                        · rw [upd_ne hb]; exact b.rel.sub b' o e
                      · obtain ⟨v, e1, ro⟩ := b.rel.sl j r h
                        refine ⟨v, e1, ?_⟩
                        cases r with
                        | d x => exact ro
                        | own k =>
                          obtain ⟨pa, e2, fpa, rc⟩ := ro
                          refine ⟨pa, e2, fpa, rc.mono (Same.refl _) fun o e => ?_⟩
                          have hb : pa ≠ Da := fun z => by
                            subst z
                            obtain ⟨h1, h2⟩ := wipeS_get h
                            refine k3 ⟨j, k, h1, ?_⟩
                            rw [← wipe_out (σ := σ4) h2, ew, e1, e2]
                          rw [upd_ne hb]
                          exact e
                      · by_cases hb : b' = Da
                        · subst hb; rw [hD] at e; cases e
                        · rw [upd_ne hb]; exact b.frame b' o e m
                      · by_cases hb : b' = Da
                        · exact ⟨_, by rw [hb]; exact upd_same⟩
                        · rw [upd_ne hb]; exact b.there b' o e
                    · obtain ⟨j, k, e1, e2⟩ := z
                      obtain ⟨a1, a2⟩ := wipeS_get e1
                      exact ⟨j, k, a1, by rw [← wipe_out (σ := σ4) a2, ew]; exact e2⟩
                  · cases eq
      · have e : i = ds.length := by omega
        subst e
        rw [List.drop_length, compLo_nil hck] at eq
        cases eq
        exact .inl ⟨stop, fin st hDa rva fDa noD⟩

theorem t_compO' {i0 : Nat} (σ : St) (H : Hp) (Q : VK) (q : T c (compO i0 vs g p f) σ H Q) : tLc (iList c.K (tVar i0)) (fun v σ' H' Q => ∃ a : St × Hp × Hp × Sl, tG (ctB c vs a.1 a.2.1 a.2.2.1 a.2.2.2) g v σ' H' Q) (fun σ' H' Q => ∃ a : St × Hp × Hp × Sl, TB (ctB c vs a.1 a.2.1 a.2.2.1 a.2.2.2) p σ' H' Q) (fun σ' H' Q => ∃ a : St × Hp × Hp × Sl, T (ctB c vs a.1 a.2.1 a.2.2.1 a.2.2.2) f σ' H' Q) vs σ H Q :=
  t_compO (fun σ F H S v σ' H' Q q => ⟨(σ, F, H, S), q⟩) (fun σ F H S σ' H' Q q => ⟨(σ, F, H, S), q⟩) (fun σ F H S σ' H' Q q => ⟨(σ, F, H, S), q⟩) σ H Q q
end
section
variable {X : Cx} {c : Ct} {e elt tg : Expr} {ifs : List Expr} {scope : Scope} {own : List (Str × Nat)} {vs : List Nat} {g : O → Mn Unit} {p : Mn Bool} {f : Mn A} {pos npos : Pos} {x : Str}
theorem he_compO {i0 : Nat} (hK : c.K = X.K) (hc : X.calm = true) (hN : X.N.Nodup) (ok : BlkOk X.N X.env.scope scope own) (hv : own.map (·.2) = vs) (b : Blk X c vs tg elt ifs scope g p f)
    (hx : X.N[i0]? = some x := by rfl) (hvs : Vis X.env.scope x := by first | exact Or.inl rfl | exact Or.inr (Or.inl rfl) | exact Or.inr (Or.inr rfl)) (hd : (x == ("__debug__" : Str)) = false := by decide) (hcd : (x == ("__classdict__" : Str)) = false := by decide) (hs : ∀ z, foldedSetIterable (.Name x npos) X.env z = pure z := by intro _; rfl) : PE X (.ListComp elt [⟨tg, .Name x npos, ifs, 0⟩] scope pos) (T c (compO i0 vs g p f)) := by
  subst hv
  exact PE.mono (pe_lc hc hN (hK ▸ pi_list (pv i0 hx hvs hd hcd)) ok (fun s H C cl fp => PG.ex fun a => b.g s H C cl fp a.1 a.2.1 a.2.2.1 a.2.2.2) (fun s H C cl fp => PTs.ex fun a => b.t s H C cl fp a.1 a.2.1 a.2.2.1 a.2.2.2) (fun s H C cl fp => PE.ex fun a => b.e s H C cl fp a.1 a.2.1 a.2.2.1 a.2.2.2) hs) t_compO'
theorem hs_setLcO {i0 : Nat} {i : Nat} {y : Str} {py spos : Pos} (hK : c.K = X.K) (hc : X.calm = true) (hN : X.N.Nodup) (hy : X.N[i]? = some y) (hyl : X.env.scope.names.lookup y = some .local) (hsw : swapsWith (.ListComp elt [⟨tg, .Name x npos, ifs, 0⟩] scope pos) (some (.Name y py)) spos.line X.env = pure true)
    (ok : BlkOk X.N X.env.scope scope own) (hv : own.map (·.2) = vs) (b : Blk X c vs tg elt ifs scope g p f) (hf : c.fx i = false := by rfl) (hx : X.N[i0]? = some x := by rfl) (hvs : Vis X.env.scope x := by first | exact Or.inl rfl | exact Or.inr (Or.inl rfl) | exact Or.inr (Or.inr rfl)) (hd : (x == ("__debug__" : Str)) = false := by decide) (hcd : (x == ("__classdict__" : Str)) = false := by decide) (hs : ∀ z, foldedSetIterable (.Name x npos) X.env z = pure z := by intro _; rfl) :
    PS X (.Assign [.Name y py] (.ListComp elt [⟨tg, .Name x npos, ifs, 0⟩] scope pos) spos) (tS c (asgS (gN i) (compO i0 vs g p f))) := by
  subst hv
  exact PS.mono (ps_setLc hc hN hy hyl hsw (hK ▸ pi_list (pv i0 hx hvs hd hcd)) ok (fun s H C cl fp => PG.ex fun a => b.g s H C cl fp a.1 a.2.1 a.2.2.1 a.2.2.2) (fun s H C cl fp => PTs.ex fun a => b.t s H C cl fp a.1 a.2.1 a.2.2.1 a.2.2.2) (fun s H C cl fp => PE.ex fun a => b.e s H C cl fp a.1 a.2.1 a.2.2.1 a.2.2.2) hs) fun D σ H q => t_set t_compO' hf q
end
end FR

namespace FR
open PySem PySem.Spec L2 RZ _root_.RT
section
variable {X : Cx} {c : Ct} {e o : Expr} {es : List Expr} {f fk fv : Mn A} {fs : List (Mn A)} {pos p apos cpos : Pos} {x : Str}
/-! ### stores and methods of a slot's list -/
theorem hs_setIx {i : Nat} {ix : Expr} {pos' p' : Pos} (hu : X.A.units + 1 < cLine) (hN : X.N[i]? = some x) (he : PE X e (T c fv)) (hk : PE X ix (T c fk)) (hv : Vis X.env.scope x := by first | exact Or.inl rfl | exact Or.inr (Or.inl rfl) | exact Or.inr (Or.inr rfl)) (hd : (x == ("__debug__" : Str)) = false := by decide) (hcd : (x == ("__classdict__" : Str)) = false := by decide)
    (ha : ∀ v, assign (.Subscript (.Name x p') ix pos') X.env v = (do
      let ov ← holding [v] (eval (.Name x p') X.env)
      let iv ← holding [v, ov] (eval ix X.env)
      standAt pos'
      holding [v, ov, iv] (setItem ov iv v)
      release [v, ov, iv] []) := by intro _; rfl) (hs : swapsWithSole [.Subscript (.Name x p') ix pos'] e pos.line X.env = pure false := by rfl) (hw : swappedStores [.Subscript (.Name x p') ix pos'] e X.env = pure none := by rfl)
    (h1 : (assignEach [.Subscript (.Name x p') ix pos'] X.env).map (·.2) = [assign (.Subscript (.Name x p') ix pos') X.env] := by rfl) (hs2 : swapsWith e (some (.Subscript (.Name x p') ix pos')) pos.line X.env = pure false := by rfl) : PS X (.Assign [.Subscript (.Name x p') ix pos'] e pos) (tS c (setIx i fk fv)) :=
  PS.mono (PS.or (ps_asg he (pg_sub (pv i hN hv hd hcd) hk set_list ha) hs hw h1) (ps_dput hu (pv i hN hv hd hcd) hk he hs2)) fun D σ H q => t_setIx q
theorem he_append {i : Nat} (hK : c.K = X.K) (hN : X.N[i]? = some x) (ha : PE X e (T c f)) (hv : Vis X.env.scope x := by first | exact Or.inl rfl | exact Or.inr (Or.inl rfl) | exact Or.inr (Or.inr rfl)) (hd : (x == ("__debug__" : Str)) = false := by decide) (hcd : (x == ("__classdict__" : Str)) = false := by decide)
    (hse : starEach (e :: []) X.env = (false, eval e X.env) :: starEach [] X.env := by rfl) (hbase : attributeBase (.Name x p) "append" X.env (eval (.Name x p) X.env) = eval (.Name x p) X.env := by rfl)
    (hfew : ((backTo cpos (starEach (e :: []) X.env)).all (fun x => !x.1) && (backToKw cpos (keywordEach [] X.env)).all (fun x => x.1.isSome) && decide ((e :: []).length + ([] : List Keyword).length + (if ([] : List Keyword).isEmpty then 0 else 1) < 30)) = true := by rfl)
    (hline : (apos.endLine == cpos.line) = true := by rfl) : PE X (.Call (.Attribute (.Name x p) "append" apos) [e] [] cpos) (T c (apnd i f)) :=
  PE.mono (pe_bm PySem.F.plainAttrs_list PySem.F.slot_list_append PySem.F.type_list_append mt_append (pv i hN hv hd hcd) (pa_cons ha pa_nil hse) hbase hfew hline hse rfl) fun σ H Q q => hK ▸ t_apnd σ H Q q
theorem he_pop {i : Nat} (hK : c.K = X.K) (hN : X.N[i]? = some x) (hv : Vis X.env.scope x := by first | exact Or.inl rfl | exact Or.inr (Or.inl rfl) | exact Or.inr (Or.inr rfl)) (hd : (x == ("__debug__" : Str)) = false := by decide) (hcd : (x == ("__classdict__" : Str)) = false := by decide)
    (hbase : attributeBase (.Name x p) "pop" X.env (eval (.Name x p) X.env) = eval (.Name x p) X.env := by rfl) (hline : (apos.endLine == cpos.line) = true := by rfl) : PE X (.Call (.Attribute (.Name x p) "pop" apos) [] [] cpos) (T c (popE i)) :=
  PE.mono (pe_bm0 PySem.F.plainAttrs_list PySem.F.slot_list_pop PySem.F.type_list_pop mt_pop (pv i hN hv hd hcd) hbase hline) fun σ H Q q => hK ▸ t_popE σ H Q q
theorem he_popAt {i : Nat} (hK : c.K = X.K) (hN : X.N[i]? = some x) (ha : PE X e (T c f)) (hv : Vis X.env.scope x := by first | exact Or.inl rfl | exact Or.inr (Or.inl rfl) | exact Or.inr (Or.inr rfl)) (hd : (x == ("__debug__" : Str)) = false := by decide) (hcd : (x == ("__classdict__" : Str)) = false := by decide)
    (hse : starEach (e :: []) X.env = (false, eval e X.env) :: starEach [] X.env := by rfl) (hbase : attributeBase (.Name x p) "pop" X.env (eval (.Name x p) X.env) = eval (.Name x p) X.env := by rfl)
    (hfew : ((backTo cpos (starEach (e :: []) X.env)).all (fun x => !x.1) && (backToKw cpos (keywordEach [] X.env)).all (fun x => x.1.isSome) && decide ((e :: []).length + ([] : List Keyword).length + (if ([] : List Keyword).isEmpty then 0 else 1) < 30)) = true := by rfl)
    (hline : (apos.endLine == cpos.line) = true := by rfl) : PE X (.Call (.Attribute (.Name x p) "pop" apos) [e] [] cpos) (T c (popAt i f)) :=
  PE.mono (pe_bm PySem.F.plainAttrs_list PySem.F.slot_list_pop PySem.F.type_list_pop mt_popAt (pv i hN hv hd hcd) (pa_cons ha pa_nil hse) hbase hfew hline hse rfl) fun σ H Q q => hK ▸ t_popAt σ H Q q
/-! {} -/
@[simp] def newK : Mn A := ret (.v (.own (.dk [])))
@[simp] def newT : Mn A := ret (.v (.own (.dt [])))
theorem he_newK : PE X (.Dict [] [] pos) (T c newK) := PE.mono pe_dnewK fun σ H Q q => by
  obtain ⟨F, S, R0, q⟩ := q
  intro p hp
  exact q _ F _ ((Grow.cell R0.sub hp).step R0) (RN.rt (fx := c.fx) (r := .own (.dk [])) ⟨p, rfl, R0.sub.free hp, ⟨[], upd_same, .nil⟩, hp⟩ (Grow.cell R0.sub hp) R0)
theorem he_newT : PE X (.Dict [] [] pos) (T c newT) := PE.mono pe_dnewT fun σ H Q q => by
  obtain ⟨F, S, R0, q⟩ := q
  intro p hp
  exact q _ F _ ((Grow.cell R0.sub hp).step R0) (RN.rt (fx := c.fx) (r := .own (.dt [])) ⟨p, rfl, R0.sub.free hp, ⟨[], upd_same, .nil⟩, hp⟩ (Grow.cell R0.sub hp) R0)
/-! name op= e, for whole numbers -/
@[simp] def augS (i : Nat) (k : O → O → Option O) (f : Mn A) : Mn Out := fun S0 => match S0[i]? with
  | some (some (.d x)) => bnd f (fun a S => match (view a S).bind (k (.d x)) with
    | some r => .ok .nx (S.set i (some r))
    | none => .bad) S0
  | _ => .bad
theorem t_aug {i : Nat} {op : Operator} {k : O → O → Option O} {ti : TIp} (ho : Op2 c.K k ti) (hf : c.fx i = false) {D : Ends} {σ : St} {H : Hp} (q : tS c (augS i k f) D σ H) : tAug i (T c f) ti D σ H := by
  obtain ⟨F, S, n, q⟩ := q
  simp only [augS] at q
  split at q
  · rename_i y ey
    obtain ⟨v, ev, ro⟩ := n.rel.sl i _ ey
    refine ⟨v, ev, G.imp (Sat.bind n q) fun w H1 ⟨a, F1, S1, n1, st, ra, q1⟩ => ?_⟩
    split at q1
    · rename_i r hr
      obtain ⟨z, ez, er⟩ := Option.bind_eq_some_iff.mp hr
      refine ho F1 H1 v w (.d y) z r _ n1.rel.sub (RV.mono st.mono ro) (ra.ro n1.rel ez) er fun u F2 H2 g rn => ?_
      have n2 : Now c σ F2 H2 S1 := n1.trans (g.step n1.rel)
      exact q1 _ F2 H2 (n2.store (RT.older (rn.rt (fx := c.fx) g n1.rel) n1) i hf) (st.mono.trans g.fm)
    · exact q1.elim
  · exact q.elim
theorem ipI_ok {K : PySem.W.Frag} {k : Int → Int → Int} : Op2 K (i2 (fun _ _ => true) fun i j => .int (k i j)) (ipI k) := by
  intro F H v w r s t Q sm r1 r2 e q
  exact (i2_rI0 (w := fun i j => .int (k i j)) fun i j F => .int _) F H v w r s t Q sm r1 r2 e q
@[simp] def aAddI : O → O → Option O := i2 (fun _ _ => true) fun i j => .int (i + j)
theorem hs_augAdd {i : Nat} {pos' : Pos} (hN : X.N.Nodup) (hi : X.N[i]? = some x) (hx : Loc X.env.scope x) (he : PE X e (T c f)) (hf : c.fx i = false := by rfl) (hl : X.fn x = true ∨ X.env.scope.names.lookup x = some .local := by first | exact .inl rfl | exact .inr rfl | assumption) : PS X (.AugAssign (.Name x pos') .Add e pos) (tS c (augS i aAddI f)) := PS.mono (ps_aug hN hi hx he ip_add hl) fun D σ H q => t_aug (op := .Add) ipI_ok hf q
theorem hs_augSub {i : Nat} {pos' : Pos} (hN : X.N.Nodup) (hi : X.N[i]? = some x) (hx : Loc X.env.scope x) (he : PE X e (T c f)) (hf : c.fx i = false := by rfl) (hl : X.fn x = true ∨ X.env.scope.names.lookup x = some .local := by first | exact .inl rfl | exact .inr rfl | assumption) : PS X (.AugAssign (.Name x pos') .Sub e pos) (tS c (augS i aSub f)) := PS.mono (ps_aug hN hi hx he ip_sub hl) fun D σ H q => t_aug (op := .Sub) ipI_ok hf q
end
end FR

namespace FR
open PySem PySem.Spec L2 RZ _root_.RT
/-! ### built-in functions -/
section
variable {K : PySem.W.Frag} {F H : Hp} {v w u : V} {vs : List V} {r s t : O} {rs : List O}
theorem ROs.one (h : ROs K F H vs [r]) : ∃ v, vs = [v] ∧ RO K F H v r := by
  cases h with
  | cons a b => cases b; exact ⟨_, rfl, a⟩
theorem ROs.two (h : ROs K F H vs [r, s]) : ∃ v w, vs = [v, w] ∧ RO K F H v r ∧ RO K F H w s := by
  cases h with
  | cons a b => obtain ⟨w, rfl, q⟩ := ROs.one b; exact ⟨_, w, rfl, a, q⟩
end
/-- of one argument, a function of what is seen -/
@[simp] def b1 (g : O → Option O) : List O → Option O
  | [x] => g x
  | _ => none
@[simp] def b2 (g : O → O → Option O) : List O → Option O
  | [x, y] => g x y
  | _ => none
theorem OpN.b1 {K : PySem.W.Frag} {g : O → Option O} {Z : List V → Hp → VK → Prop} (h : Op1 K g fun x H Q => Z [x] H Q) : OpN K (b1 g) Z := by
  intro F H vs rs s Q sm ro e q
  unfold FR.b1 at e
  split at e
  · obtain ⟨v, rfl, r1⟩ := ROs.one ro
    exact h F H v _ s Q sm r1 e q
  · cases e
theorem OpN.b2 {K : PySem.W.Frag} {g : O → O → Option O} {Z : List V → Hp → VK → Prop} (h : Op2 K g fun x y H Q => Z [x, y] H Q) : OpN K (b2 g) Z := by
  intro F H vs rs s Q sm ro e q
  unfold FR.b2 at e
  split at e
  · obtain ⟨v, w, rfl, r1, r2⟩ := ROs.two ro
    exact h F H v w _ _ s Q sm r1 r2 e q
  · cases e
theorem CallR.or {X : Cx} {f : Value} {r r' : List V → Hp → VK → Prop} (h : CallR X f r) (h' : CallR X f r') : CallR X f (fun xs H Q => r xs H Q ∨ r' xs H Q) := by
  intro pins s σ H xs us Q I rv q
  rcases q with q | q
  · exact h pins s σ H xs us Q I rv q
  · exact h' pins s σ H xs us Q I rv q
theorem OpN.or {K : PySem.W.Frag} {g g' : List O → Option O} {Z Z' : List V → Hp → VK → Prop} (h : OpN K g Z) (h' : OpN K g' Z') : OpN K (fun xs => match g xs with | some z => some z | none => g' xs) (fun xs H Q => Z xs H Q ∨ Z' xs H Q) := by
  intro F H vs rs s Q sm ro e q
  simp only at e
  cases eg : g rs with
  | some z => rw [eg] at e; cases e; exact .inl (h F H vs rs _ Q sm ro eg q)
  | none => rw [eg] at e; exact .inr (h' F H vs rs _ Q sm ro e q)
/-! len -/
@[simp] def oLen : O → Option O
  | .d (.str z) => if z.length ≤ lim then some (.d (.int z.length)) else none
  | .d (.tup xs) => some (.d (.int xs.length))
  | .d (.kt xs) => some (.d (.int xs.length))
  | .d (.lst xs) => some (.d (.int xs.length))
  | .d (.lk xs) => some (.d (.int xs.length))
  | .own (.lst xs) => some (.d (.int xs.length))
  | _ => none
theorem oLen_ok {K : PySem.W.Frag} : Op1 K oLen (fun x H Q => ∃ y n, [x] = [y] ∧ LenV K y H n ∧ Q (.int n) H) := by
  intro F H v r s Q sm r1 e q
  have fin : ∀ {n : Nat}, s = .d (.int n) → LenV K v H n → ∃ y n, [v] = [y] ∧ LenV K y H n ∧ Q (.int n) H := fun {n} es l => ⟨v, n, rfl, l, by subst es; exact q _ F H (Grow.refl sm) (.int _)⟩
  cases r with
  | d x =>
    cases x with
    | str z =>
      simp only [oLen] at e
      split at e
      · rename_i hl; cases e; have := RO.str r1; subst this; exact fin rfl ⟨Nat.le_trans hl lim_le, rfl⟩
      · cases e
    | tup xs => cases e; obtain ⟨a, vs, rfl, h1, h2⟩ := RV.tup_inv r1; exact fin rfl (.inr ⟨vs, .inl (.inl (sm _ _ h1)), h2.length.symm⟩)
    | kt xs => cases e; obtain ⟨a, vs, rfl, h1, h2⟩ := RV.kt_inv r1; exact fin rfl (.inr ⟨vs, Same.seqT sm h1, h2.length.symm⟩)
    | lst xs => cases e; obtain ⟨a, vs, rfl, h1, h2⟩ := RV.lst_inv r1; exact fin rfl (.inl ⟨vs, .inl (.inl (sm _ _ h1)), h2.length.symm⟩)
    | lk xs => cases e; obtain ⟨a, vs, rfl, h1, h2⟩ := RV.lk_inv r1; exact fin rfl (.inl ⟨vs, sm.seq h1, h2.length.symm⟩)
    | _ => cases e
  | own k =>
    cases k with
    | lst xs => cases e; obtain ⟨a, rfl, _, vs, h1, h2⟩ := r1; exact fin rfl (.inl ⟨vs, .inl (.inl h1), h2.length.symm⟩)
    | _ => cases e
/-! int, str of a number, abs, max and min of two, gcd -/
@[simp] def oInt : O → Option O
  | .d (.int i) => some (.d (.int i))
  | .d (.bl b) => some (.d (.int (if b then 1 else 0)))
  | _ => none
theorem oInt_ok {K : PySem.W.Frag} : Op1 K oInt (fun x H Q => (∃ i, [x] = [.int i] ∧ Q (.int i) H) ∨ ∃ k, [x] = [.bl k] ∧ Q (.int (if k then 1 else 0)) H) := by
  intro F H v r s Q sm r1 e q
  unfold oInt at e
  split at e
  · cases e; rw [RO.int r1]; exact .inl ⟨_, rfl, q _ F H (Grow.refl sm) (.int _)⟩
  · cases e; rw [RO.bl r1]; exact .inr ⟨_, rfl, q _ F H (Grow.refl sm) (.int _)⟩
  · cases e
@[simp] def oStr : O → Option O
  | .d (.int i) => if i.natAbs.log2 < 1920 then some (.d (.str (toString i))) else none
  | _ => none
theorem oStr_ok {K : PySem.W.Frag} : Op1 K oStr (fun x H Q => ∃ i, [x] = [.int i] ∧ i.natAbs.log2 < 1920 ∧ Q (.str (toString i)) H) := by
  intro F H v r s Q sm r1 e q
  unfold oStr at e
  split at e
  · split at e
    · rename_i hl; cases e; rw [RO.int r1]; exact ⟨_, rfl, hl, q _ F H (Grow.refl sm) (.str _)⟩
    · cases e
  · cases e
@[simp] def oAbs : O → Option O
  | .d (.int i) => some (.d (.int (if i < 0 then -i else i)))
  | _ => none
theorem oAbs_ok {K : PySem.W.Frag} : Op1 K oAbs (fun x H Q => ∃ i, [x] = [.int i] ∧ Q (.int (if i < 0 then -i else i)) H) := by
  intro F H v r s Q sm r1 e q
  unfold oAbs at e
  split at e
  · cases e; rw [RO.int r1]; exact ⟨_, rfl, q _ F H (Grow.refl sm) (.int _)⟩
  · cases e
@[simp] def oMax2 : O → O → Option O := i2 (fun _ _ => true) fun i j => .int (if j > i then j else i)
@[simp] def oMin2 : O → O → Option O := i2 (fun _ _ => true) fun i j => .int (if j < i then j else i)
@[simp] def oGcd : O → O → Option O := i2 (fun _ _ => true) fun i j => .int ((Nat.gcd i.natAbs j.natAbs : Nat) : Int)
theorem i2_list {K : PySem.W.Frag} {k : Int → Int → Int} : Op2 K (i2 (fun _ _ => true) fun i j => .int (k i j)) (fun x y H Q => ∃ i j, [x, y] = [.int i, .int j] ∧ Q (.int (k i j)) H) := by
  intro F H v w r s t Q sm r1 r2 e q
  obtain ⟨i, j, e1, e2, q'⟩ := (i2_rI0 (w := fun i j => .int (k i j)) fun i j F => .int _) F H v w r s t Q sm r1 r2 e q
  exact ⟨i, j, by rw [e1, e2], q'⟩
/-! tuple(x), list(x) -/
@[simp] def oTuple : O → Option O
  | .d (.lst xs) => some (.d (.tup xs))
  | .d (.lk xs) => some (.d (.tup xs))
  | .own (.lst xs) => some (.d (.tup xs))
  | .d (.tup xs) => some (.d (.tup xs))
  | .d (.kt xs) => some (.d (.kt xs))
  | _ => none
theorem oTuple_ok {K : PySem.W.Frag} : Op1 K oTuple (fun x H Q => ∃ p ys, [x] = [.ref p] ∧ ((SqL K H p ys ∧ ∀ l, H l = none → Q (.ref l) (upd H l (.tup ys))) ∨ (SqT K H p ys ∧ Q (.ref p) H))) := by
  intro F H v r s Q sm r1 e q
  have ll : ∀ {xs : List D}, oL r = some xs → s = .d (.tup xs) → ∃ p ys, [v] = [.ref p] ∧ ((SqL K H p ys ∧ ∀ l, H l = none → Q (.ref l) (upd H l (.tup ys))) ∨ (SqT K H p ys ∧ Q (.ref p) H)) := fun {xs} e1 e2 => by
    subst e2
    obtain ⟨a, vs, rfl, h1, h2⟩ := r1.seqL sm e1
    exact ⟨a, vs, rfl, .inl ⟨h1, new_tup sm h2 q⟩⟩
  cases r with
  | d x =>
    cases x with
    | lst xs => cases e; exact ll rfl rfl
    | lk xs => cases e; exact ll rfl rfl
    | tup xs => cases e; obtain ⟨a, vs, rfl, h1, h2⟩ := RV.tup_inv r1; exact ⟨a, vs, rfl, .inr ⟨.inl (.inl (sm _ _ h1)), q _ F H (Grow.refl sm) r1⟩⟩
    | kt xs => cases e; obtain ⟨a, vs, rfl, h1, h2⟩ := RV.kt_inv r1; exact ⟨a, vs, rfl, .inr ⟨Same.seqT sm h1, q _ F H (Grow.refl sm) r1⟩⟩
    | _ => cases e
  | own k =>
    cases k with
    | lst xs => cases e; exact ll rfl rfl
    | _ => cases e
@[simp] def oList (x : O) : Option O := match oLT x with
  | some xs => some (.own (.lst xs))
  | none => none
theorem oList_ok {K : PySem.W.Frag} : Op1 K oList (fun x H Q => ∃ p ys, [x] = [.ref p] ∧ (SqL K H p ys ∨ SqT K H p ys) ∧ ∀ l, H l = none → Q (.ref l) (upd H l (.lst ys))) := by
  intro F H v r s Q sm r1 e q
  unfold oList at e
  split at e
  · rename_i xs hx
    cases e
    obtain ⟨a, vs, rfl, h1, h2⟩ := r1.seqLT sm hx
    exact ⟨a, vs, rfl, h1, new_list sm h2 q⟩
  · cases e
/-! sum, max, min of a tuple of whole numbers -/
section
variable {prog : Program} {w : World} {A : Around} {E : Value → Shared → Prop} {s : Shared} {l : Addr} {xs : Array (Int × Tok)}
theorem iter_intTup {Q : Value → Shared → Prop} (hl : s.heap.IsTuple l (intItems xs))
    (h : ∀ s₂ : Shared, s₂ = { s with heap := s.heap.push { cls := .type "tuple_iterator", data := .fields #[.ref l, .int 0 0] } } →
      (s₂.heap.IsTupleIter s.heap.objs.size l 0 ∧ s₂.heap.IsTuple l (intItems xs)) → (∀ b ∈ [s.heap.objs.size, l], b < s₂.heap.objs.size) → l ≠ s.heap.objs.size → Q (.ref s.heap.objs.size) s₂) :
    wpAny (model prog w) A (pyIter (.ref l)) Q E s := by
  have hlt : l < s.heap.objs.size := by obtain ⟨_, e, _⟩ := hl; exact Heap.lt_size e
  refine wpAny_pyIter_tuple hl (h _ rfl ⟨⟨_, Heap.get?_push_size _ rfl, rfl, rfl⟩, hl.push _⟩ (fun b hb => ?_) (Nat.ne_of_lt hlt))
  show b < (s.heap.push _).objs.size
  rw [Heap.size_push]
  rcases List.mem_cons.mp hb with rfl | hb
  · exact Nat.lt_succ_self _
  · rcases List.mem_cons.mp hb with rfl | hb
    · exact Nat.lt_succ_of_lt hlt
    · cases hb
theorem old_keptT {h' : Heap} (hk : ∀ b o, b ∉ [s.heap.objs.size] → (s.heap.push { cls := .type "tuple_iterator", data := .fields #[.ref l, .int 0 0] }).get? b = some o → h'.get? b = some o) :
    ∀ b o, s.heap.get? b = some o → h'.get? b = some o := fun b o e => by
  refine hk b o (fun hm => ?_) (Heap.get?_push_of_some _ e)
  rcases List.mem_cons.mp hm with e1 | hm
  · exact absurd (e1 ▸ Heap.lt_size e) (Nat.lt_irrefl _)
  · cases hm
theorem max_intTup {Q : Value → Shared → Prop} (hh : A.handled = none) (hl : s.heap.IsTuple l (intItems xs)) (hne : 0 < xs.size)
    (h : ∀ v h' tk, (intItems xs)[argBest (fun i j => decide (numAt xs i > numAt xs j)) (xs.size - 1)]? = some v → (∀ b o, s.heap.get? b = some o → h'.get? b = some o) → Q v { s with heap := h', toks := tk }) :
    wpAny (model prog w) A (call (.builtin "max") [.ref l]) Q E s := by
  refine call_max_walk (iter_intTup hl fun s₂ e st hfp hlI => ?_)
  subst e
  refine ⟨_, _, _, _, _, _, _, rfl, Walks.tuple (A := A.in1) hh _ l hlI (intItems xs), st, hfp, by simpa [intItems] using hne, CmpOf.ints_gt (numAt xs) (fun _ _ => intItems_at), fun v h' tk hP hk => ?_⟩
  exact h v h' tk (by simpa [intItems] using hP) (old_keptT hk)
theorem min_intTup {Q : Value → Shared → Prop} (hh : A.handled = none) (hl : s.heap.IsTuple l (intItems xs)) (hne : 0 < xs.size)
    (h : ∀ v h' tk, (intItems xs)[argBest (fun i j => decide (numAt xs i < numAt xs j)) (xs.size - 1)]? = some v → (∀ b o, s.heap.get? b = some o → h'.get? b = some o) → Q v { s with heap := h', toks := tk }) :
    wpAny (model prog w) A (call (.builtin "min") [.ref l]) Q E s := by
  refine call_min_walk (iter_intTup hl fun s₂ e st hfp hlI => ?_)
  subst e
  refine ⟨_, _, _, _, _, _, _, rfl, Walks.tuple (A := A.in1) hh _ l hlI (intItems xs), st, hfp, by simpa [intItems] using hne, CmpOf.ints_lt (numAt xs) (fun _ _ => intItems_at), fun v h' tk hP hk => ?_⟩
  exact h v h' tk (by simpa [intItems] using hP) (old_keptT hk)
theorem sum_intTup {Q : Value → Shared → Prop} (hh : A.handled = none) (hl : s.heap.IsTuple l (intItems xs))
    (h : ∀ h' tk t', (∀ b o, s.heap.get? b = some o → h'.get? b = some o) → Q (.int (preSum (numAt xs) xs.size) t') { s with heap := h', toks := tk }) :
    wpAny (model prog w) A (call (.builtin "sum") [.ref l]) Q E s := by
  refine call_sum_walkG (iter_intTup hl fun s₂ e st hfp hlI => ?_)
  subst e
  refine ⟨_, _, _, _, _, _, numAt xs, rfl, Walks.tuple (A := A.in1) hh _ l hlI (intItems xs), st, hfp, (fun _ _ => intItems_at), fun h' tk t' hk => ?_⟩
  have := h h' tk t' (old_keptT hk)
  simpa [intItems] using this
variable {its : List Value} {ns : List Int}
theorem sum_rawT {Q : Value → Shared → Prop} (hh : A.handled = none) (hl : s.heap.IsTuple l its.toArray) (hi : PyProof.Rows.IntsAre its ns)
    (h : ∀ h' tk t', (∀ b o, s.heap.get? b = some o → h'.get? b = some o) → Q (.int ns.sum t') { s with heap := h', toks := tk }) : wpAny (model prog w) A (call (.builtin "sum") [.ref l]) Q E s := by
  obtain ⟨xs, e⟩ := hi.allInts.items
  have hn : numsOf (intItems xs).toList = ns := by rw [← e]; exact hi.numsOf
  rw [nums_intItems] at hn
  rw [e] at hl
  refine sum_intTup hh hl fun h' tk t' hk => ?_
  have := h h' tk t' hk
  rw [preSum_eq, List.take_of_length_le (by simp), hn]; exact this
theorem max_rawT {Q : Value → Shared → Prop} (hh : A.handled = none) (hl : s.heap.IsTuple l its.toArray) (hi : PyProof.Rows.IntsAre its ns) (hne : 0 < ns.length)
    (h : ∀ h' tk M t', (∀ b o, s.heap.get? b = some o → h'.get? b = some o) → M ∈ ns → (∀ a, a ∈ ns → a ≤ M) → Q (.int M t') { s with heap := h', toks := tk }) : wpAny (model prog w) A (call (.builtin "max") [.ref l]) Q E s := by
  obtain ⟨xs, e⟩ := hi.allInts.items
  have hn : numsOf (intItems xs).toList = ns := by rw [← e]; exact hi.numsOf
  rw [nums_intItems] at hn
  subst hn
  rw [e] at hl
  have hsz : 0 < xs.size := by simpa using hne
  refine max_intTup hh hl hsz fun v h' tk hv hk => ?_
  obtain ⟨t, rfl⟩ := intItems_at hv
  obtain ⟨h1, h2⟩ := argBest_gt (numAt xs) (xs.size - 1)
  refine h h' tk _ t hk ?_ fun a ha => ?_
  · rw [numAt_eq]; exact PySem.getD_mem (by rw [List.length_map, Array.length_toList]; omega)
  · obtain ⟨j, hj, rfl⟩ := mem_getD ha
    rw [List.length_map, Array.length_toList] at hj
    rw [← numAt_eq]; exact h2 j (by omega)
theorem min_rawT {Q : Value → Shared → Prop} (hh : A.handled = none) (hl : s.heap.IsTuple l its.toArray) (hi : PyProof.Rows.IntsAre its ns) (hne : 0 < ns.length)
    (h : ∀ h' tk M t', (∀ b o, s.heap.get? b = some o → h'.get? b = some o) → M ∈ ns → (∀ a, a ∈ ns → M ≤ a) → Q (.int M t') { s with heap := h', toks := tk }) : wpAny (model prog w) A (call (.builtin "min") [.ref l]) Q E s := by
  obtain ⟨xs, e⟩ := hi.allInts.items
  have hn : numsOf (intItems xs).toList = ns := by rw [← e]; exact hi.numsOf
  rw [nums_intItems] at hn
  subst hn
  rw [e] at hl
  have hsz : 0 < xs.size := by simpa using hne
  refine min_intTup hh hl hsz fun v h' tk hv hk => ?_
  obtain ⟨t, rfl⟩ := intItems_at hv
  obtain ⟨h1, h2⟩ := argBest_lt (numAt xs) (xs.size - 1)
  refine h h' tk _ t hk ?_ fun a ha => ?_
  · rw [numAt_eq]; exact PySem.getD_mem (by rw [List.length_map, Array.length_toList]; omega)
  · obtain ⟨j, hj, rfl⟩ := mem_getD ha
    rw [List.length_map, Array.length_toList] at hj
    rw [← numAt_eq]; exact h2 j (by omega)
end
def rSumQ (K : PySem.W.Frag) : List V → Hp → VK → Prop := fun vs H Q => ∃ (a : Addr) (ns : List Int), vs = [V.ref a] ∧ (SqL K H a (ns.map V.int) ∨ SqT K H a (ns.map V.int)) ∧ Q (.int ns.sum) H
def rMaxQ (K : PySem.W.Frag) : List V → Hp → VK → Prop := fun vs H Q => ∃ (a : Addr) (ns : List Int), vs = [V.ref a] ∧ (SqL K H a (ns.map V.int) ∨ SqT K H a (ns.map V.int)) ∧ 0 < ns.length ∧ ∀ m, m ∈ ns → (∀ y, y ∈ ns → y ≤ m) → Q (.int m) H
def rMinQ (K : PySem.W.Frag) : List V → Hp → VK → Prop := fun vs H Q => ∃ (a : Addr) (ns : List Int), vs = [V.ref a] ∧ (SqL K H a (ns.map V.int) ∨ SqT K H a (ns.map V.int)) ∧ 0 < ns.length ∧ ∀ m, m ∈ ns → (∀ y, y ∈ ns → m ≤ y) → Q (.int m) H
section
variable {X : Cx}
theorem cr_sumQ (hc : X.calm = true) : CallR X (.builtin "sum") (rSumQ X.K) := by
  intro pins s σ H vs us Q I r h
  obtain ⟨a, ns, rfl, hs, q⟩ := h
  rw [Vals.ref1 r]
  rcases hs with hs | hs
  · obtain ⟨its, rv, hl, _⟩ := I.list hs
    exact sum_raw (I.ok.hd hc) hl.isList rv.ints fun h' tk t' hk => ⟨.int _, H, I.kept hk, ⟨_, rfl⟩, q⟩
  · obtain ⟨its, rv, hl, _⟩ := I.tuple hs
    exact sum_rawT (I.ok.hd hc) hl rv.ints fun h' tk t' hk => ⟨.int _, H, I.kept hk, ⟨_, rfl⟩, q⟩
theorem cr_maxQ (hc : X.calm = true) : CallR X (.builtin "max") (rMaxQ X.K) := by
  intro pins s σ H vs us Q I r h
  obtain ⟨a, ns, rfl, hs, hne, q⟩ := h
  rw [Vals.ref1 r]
  rcases hs with hs | hs
  · obtain ⟨its, rv, hl, _⟩ := I.list hs
    exact max_raw (I.ok.hd hc) hl.isList rv.ints hne fun h' tk m t' hk h1 h2 => ⟨.int _, H, I.kept hk, ⟨_, rfl⟩, q m h1 h2⟩
  · obtain ⟨its, rv, hl, _⟩ := I.tuple hs
    exact max_rawT (I.ok.hd hc) hl rv.ints hne fun h' tk m t' hk h1 h2 => ⟨.int _, H, I.kept hk, ⟨_, rfl⟩, q m h1 h2⟩
theorem cr_minQ (hc : X.calm = true) : CallR X (.builtin "min") (rMinQ X.K) := by
  intro pins s σ H vs us Q I r h
  obtain ⟨a, ns, rfl, hs, hne, q⟩ := h
  rw [Vals.ref1 r]
  rcases hs with hs | hs
  · obtain ⟨its, rv, hl, _⟩ := I.list hs
    exact min_raw (I.ok.hd hc) hl.isList rv.ints hne fun h' tk m t' hk h1 h2 => ⟨.int _, H, I.kept hk, ⟨_, rfl⟩, q m h1 h2⟩
  · obtain ⟨its, rv, hl, _⟩ := I.tuple hs
    exact min_rawT (I.ok.hd hc) hl rv.ints hne fun h' tk m t' hk h1 h2 => ⟨.int _, H, I.kept hk, ⟨_, rfl⟩, q m h1 h2⟩
end
/-! sum, max, min, sorted of whole numbers -/
@[simp] def intsD : List D → Option (List Int)
  | [] => some []
  | .int i :: ds => (intsD ds).map (i :: ·)
  | _ => none
theorem intsD_eq : ∀ {ds : List D} {ns : List Int}, intsD ds = some ns → ds = ns.map D.int
  | [], _, e => by cases e; rfl
  | .int i :: ds, ns, e => by
    obtain ⟨ms, h, rfl⟩ := Option.map_eq_some_iff.mp (show (intsD ds).map _ = _ from e)
    rw [List.map_cons, ← intsD_eq h]
theorem intsD_map : ∀ (ns : List Int), intsD (ns.map D.int) = some ns
  | [] => rfl
  | n :: ns => by rw [List.map_cons, intsD, intsD_map ns] <;> rfl
theorem seq_ints {K : PySem.W.Frag} {F H : Hp} {v : V} {r : O} {xs : List D} {ns : List Int} (sm : Same F H) (r1 : RO K F H v r) (e : oL r = some xs) (ei : intsD xs = some ns) : ∃ a, v = .ref a ∧ SqL K H a (ns.map V.int) := by
  obtain ⟨a, vs, rfl, h1, h2⟩ := r1.seqL sm e
  have := intsD_eq ei
  subst this
  rw [RVs.ints h2] at h1
  exact ⟨a, rfl, h1⟩
@[simp] def oIntsL (r : O) : Option (List Int) := (oL r).bind intsD
theorem oIntsL_ok {K : PySem.W.Frag} {F H : Hp} {v : V} {r : O} {ns : List Int} (sm : Same F H) (r1 : RO K F H v r) (e : oIntsL r = some ns) : ∃ a, v = .ref a ∧ SqL K H a (ns.map V.int) := by
  obtain ⟨xs, e1, e2⟩ := Option.bind_eq_some_iff.mp e
  exact seq_ints sm r1 e1 e2
@[simp] def oInts (r : O) : Option (List Int) := (oLT r).bind intsD
theorem oInts_ok {K : PySem.W.Frag} {F H : Hp} {v : V} {r : O} {ns : List Int} (sm : Same F H) (r1 : RO K F H v r) (e : oInts r = some ns) : ∃ a, v = .ref a ∧ (SqL K H a (ns.map V.int) ∨ SqT K H a (ns.map V.int)) := by
  obtain ⟨xs, e1, e2⟩ := Option.bind_eq_some_iff.mp e
  obtain ⟨a, vs, rfl, h1, h2⟩ := r1.seqLT sm e1
  have := intsD_eq e2
  subst this
  rw [RVs.ints h2] at h1
  exact ⟨a, rfl, h1⟩
@[simp] def oSum (r : O) : Option O := (oInts r).map fun ns => .d (.int ns.sum)
theorem oSum_ok {K : PySem.W.Frag} : Op1 K oSum (fun x H Q => rSumQ K [x] H Q) := by
  intro F H v r s Q sm r1 e q
  obtain ⟨ns, e1, rfl⟩ := Option.map_eq_some_iff.mp e
  obtain ⟨a, rfl, h⟩ := oInts_ok sm r1 e1
  exact ⟨a, ns, rfl, h, q _ F H (Grow.refl sm) (.int _)⟩
/-- the greatest, the least -/
@[simp] def topI (n : Int) (ns : List Int) : Int := ns.foldl (fun a b => if b > a then b else a) n
@[simp] def lowI (n : Int) (ns : List Int) : Int := ns.foldl (fun a b => if b < a then b else a) n
theorem topI_spec : ∀ (ns : List Int) (n : Int), topI n ns ∈ n :: ns ∧ ∀ y ∈ n :: ns, y ≤ topI n ns
  | [], n => ⟨by simp, by simp⟩
  | m :: ns, n => by
    have e : topI n (m :: ns) = topI (if m > n then m else n) ns := rfl
    rw [e]
    obtain ⟨h1, h2⟩ := topI_spec ns (if m > n then m else n)
    refine ⟨?_, fun y hy => ?_⟩
    · rcases List.mem_cons.mp h1 with z | z
      · rw [z]
        split
        · simp
        · simp
      · exact List.mem_cons_of_mem _ (List.mem_cons_of_mem _ z)
    · have h0 := h2 _ List.mem_cons_self
      have h3 : ∀ y ∈ ns, _ := fun y hy => h2 y (List.mem_cons_of_mem _ hy)
      clear h1 h2 e
      generalize topI (if m > n then m else n) ns = t at *
      rcases List.mem_cons.mp hy with z | z
      · subst z; split at h0 <;> omega
      · rcases List.mem_cons.mp z with z | z
        · subst z; split at h0 <;> omega
        · exact h3 y z
theorem lowI_spec : ∀ (ns : List Int) (n : Int), lowI n ns ∈ n :: ns ∧ ∀ y ∈ n :: ns, lowI n ns ≤ y
  | [], n => ⟨by simp, by simp⟩
  | m :: ns, n => by
    have e : lowI n (m :: ns) = lowI (if m < n then m else n) ns := rfl
    rw [e]
    obtain ⟨h1, h2⟩ := lowI_spec ns (if m < n then m else n)
    refine ⟨?_, fun y hy => ?_⟩
    · rcases List.mem_cons.mp h1 with z | z
      · rw [z]
        split
        · simp
        · simp
      · exact List.mem_cons_of_mem _ (List.mem_cons_of_mem _ z)
    · have h0 := h2 _ List.mem_cons_self
      have h3 : ∀ y ∈ ns, _ := fun y hy => h2 y (List.mem_cons_of_mem _ hy)
      clear h1 h2 e
      generalize lowI (if m < n then m else n) ns = t at *
      rcases List.mem_cons.mp hy with z | z
      · subst z; split at h0 <;> omega
      · rcases List.mem_cons.mp z with z | z
        · subst z; split at h0 <;> omega
        · exact h3 y z
@[simp] def oMax (r : O) : Option O := match oInts r with
  | some (n :: ns) => some (.d (.int (topI n ns)))
  | _ => none
@[simp] def oMin (r : O) : Option O := match oInts r with
  | some (n :: ns) => some (.d (.int (lowI n ns)))
  | _ => none
theorem oMax_ok {K : PySem.W.Frag} : Op1 K oMax (fun x H Q => rMaxQ K [x] H Q) := by
  intro F H v r s Q sm r1 e q
  unfold oMax at e
  split at e
  · rename_i n ns hn
    cases e
    obtain ⟨a, rfl, h⟩ := oInts_ok sm r1 hn
    obtain ⟨t1, t2⟩ := topI_spec ns n
    refine ⟨a, n :: ns, rfl, h, by simp, fun m hm hle => ?_⟩
    have : m = topI n ns := Int.le_antisymm (t2 m hm) (hle _ t1)
    rw [this]
    exact q _ F H (Grow.refl sm) (.int _)
  · cases e
theorem oMin_ok {K : PySem.W.Frag} : Op1 K oMin (fun x H Q => rMinQ K [x] H Q) := by
  intro F H v r s Q sm r1 e q
  unfold oMin at e
  split at e
  · rename_i n ns hn
    cases e
    obtain ⟨a, rfl, h⟩ := oInts_ok sm r1 hn
    obtain ⟨t1, t2⟩ := lowI_spec ns n
    refine ⟨a, n :: ns, rfl, h, by simp, fun m hm hle => ?_⟩
    have : m = lowI n ns := Int.le_antisymm (hle _ t1) (t2 m hm)
    rw [this]
    exact q _ F H (Grow.refl sm) (.int _)
  · cases e
@[simp] def sortI (ns : List Int) : List Int := ns.mergeSort fun a b => decide (a ≤ b)
theorem sortI_uniq {ns ms : List Int} (hp : ms.Perm ns) (ho : ms.Pairwise (· ≤ ·)) : ms = sortI ns := by
  unfold sortI
  have h1 : (ns.mergeSort fun a b => decide (a ≤ b)).Perm ns := List.mergeSort_perm ns _
  have h2 := List.pairwise_mergeSort (le := fun a b : Int => decide (a ≤ b)) (fun a b c h1 h2 => by simp at *; omega) (fun a b => by simp; omega) ns
  exact (hp.trans h1.symm).eq_of_pairwise (fun a b _ _ h1 h2 => Int.le_antisymm h1 h2) ho (h2.imp fun h => of_decide_eq_true h)
@[simp] def oSorted (r : O) : Option O := (oIntsL r).map fun ns => .own (.lst ((sortI ns).map .int))
theorem oSorted_ok {K : PySem.W.Frag} : Op1 K oSorted (fun x H Q => rSortedI K [x] H Q) := by
  intro F H v r s Q sm r1 e q
  obtain ⟨ns, e1, rfl⟩ := Option.map_eq_some_iff.mp e
  obtain ⟨a, rfl, h⟩ := oIntsL_ok sm r1 e1
  refine ⟨a, ns, rfl, h, fun ms p hp ho => ?_⟩
  rw [sortI_uniq hp ho]
  exact fun hn => new_list sm (RVs.of_ints _) q p hn
/-! isinstance of a built-in class -/
inductive TyN where
  | bool | int | str | tuple | list | dict
  deriving DecidableEq
@[simp] def tyN (n : String) : Option TyN := if n = "bool" then some .bool else if n = "int" then some .int else if n = "str" then some .str else if n = "tuple" then some .tuple else if n = "list" then some .list else none
@[simp] def kitD : TyN → D → Option Bool
  | n, .non => some false
  | n, .bl _ => some (n = .bool ∨ n = .int)
  | n, .int _ => some (n = .int)
  | n, .str _ => some (n = .str)
  | n, .tup _ => some (n = .tuple)
  | n, .kt _ => some (n = .tuple)
  | n, .lst _ => some (n = .list)
  | n, .lk _ => some (n = .list)
  | n, .dk _ => some (n = .dict)
  | n, .dt _ => some (n = .dict)
  | _, .ty _ => none
def tyStr : TyN → String
  | .bool => "bool" | .int => "int" | .str => "str" | .tuple => "tuple" | .list => "list" | .dict => "dict"
@[simp] def isI (n : TyN) : O → Option O
  | .d x => (kitD n x).map fun b => .d (.bl b)
  | .own (.lst _) => some (.d (.bl (n = .list)))
  | .own (.dk _) => some (.d (.bl (n = .dict)))
  | .own (.dt _) => some (.d (.bl (n = .dict)))
theorem isI_ok {K : PySem.W.Frag} (n : TyN) : Op1 K (isI n) (fun x H Q => rIsi K [x, .ty (tyStr n)] H Q) := by
  intro F H v r s Q sm r1 e q
  have fin : ∀ {b : Bool} {t : String}, s = .d (.bl b) → TyX K H v (.type t) → kitB t (tyStr n) = some b → rIsi K [v, .ty (tyStr n)] H Q := fun {b t} es ty kb => ⟨v, .ty (tyStr n), _, _, b, rfl, .ty _, ty, kit_ty kb, by subst es; exact q _ F H (Grow.refl sm) (.bl _)⟩
  have lst : ∀ {a : Addr} {vs : List V}, v = .ref a → SqL K H a vs → TyX K H v (.type "list") := fun {a vs} ev h => by
    subst ev
    rcases h with (h | ⟨o, h⟩) | ⟨o, its, n, h1, h2, _⟩
    · exact .base (.lst h)
    · exact .base (.frz h)
    · exact .kList h1 h2
  have tup : ∀ {a : Addr} {vs : List V}, v = .ref a → SqT K H a vs → TyX K H v (.type "tuple") := fun {a vs} ev h => by
    subst ev
    rcases h with (h | ⟨o, h⟩) | ⟨o, its, n, h1, h2, _⟩
    · exact .base (.tup h)
    · exact .fTuple h
    · exact .kTuple h1 h2
  cases r with
  | d x =>
    obtain ⟨b, eb, rfl⟩ := Option.map_eq_some_iff.mp (show (kitD n x).map _ = some s from e)
    cases x with
    | non => cases eb; cases r1; exact fin rfl (.base .non) (by cases n <;> decide +kernel)
    | bl y => cases eb; cases r1; exact fin rfl (.base (.bl _)) (by cases n <;> decide +kernel)
    | int y => cases eb; cases r1; exact fin rfl (.base (.int _)) (by cases n <;> decide +kernel)
    | str y => cases eb; cases r1; exact fin rfl (.base (.str _)) (by cases n <;> decide +kernel)
    | tup y => cases eb; obtain ⟨a, vs, e1, h1, h2⟩ := RV.tup_inv r1; exact fin rfl (tup e1 (.inl (.inl (sm _ _ h1)))) (by cases n <;> decide +kernel)
    | kt y => cases eb; obtain ⟨a, vs, e1, h1, h2⟩ := RV.kt_inv r1; exact fin rfl (tup e1 (Same.seqT sm h1)) (by cases n <;> decide +kernel)
    | lst y => cases eb; obtain ⟨a, vs, e1, h1, h2⟩ := RV.lst_inv r1; exact fin rfl (lst e1 (.inl (.inl (sm _ _ h1)))) (by cases n <;> decide +kernel)
    | lk y => cases eb; obtain ⟨a, vs, e1, h1, h2⟩ := RV.lk_inv r1; exact fin rfl (lst e1 (sm.seq h1)) (by cases n <;> decide +kernel)
    | dk y => cases eb; cases r1 with | dk h1 h2 => exact fin rfl (.base (.dK (sm _ _ h1))) (by cases n <;> decide +kernel)
    | dt y => cases eb; cases r1 with | dt h1 h2 => exact fin rfl (.base (.dT (sm _ _ h1))) (by cases n <;> decide +kernel)
    | ty y => cases eb
  | own k =>
    cases k with
    | lst y => cases e; obtain ⟨a, e1, _, vs, h1, h2⟩ := r1; exact fin rfl (lst e1 (.inl (.inl h1))) (by cases n <;> decide +kernel)
    | dk y => cases e; obtain ⟨a, rfl, _, vs, h1, h2⟩ := r1; exact fin rfl (.base (.dK h1)) (by cases n <;> decide +kernel)
    | dt y => cases e; obtain ⟨a, rfl, _, vs, h1, h2⟩ := r1; exact fin rfl (.base (.dT h1)) (by cases n <;> decide +kernel)
/-- isinstance(x, T) -/
@[simp] def isiN (n : TyN) : List O → Option O
  | [x, .d (.ty m)] => if m = tyStr n then isI n x else none
  | _ => none
theorem isiN_ok {K : PySem.W.Frag} (n : TyN) : OpN K (isiN n) (rIsi K) := by
  intro F H vs rs s Q sm ro e q
  unfold isiN at e
  split at e
  · split at e
    · rename_i hm
      subst hm
      obtain ⟨v, w, rfl, r1, r2⟩ := ROs.two ro
      cases r2
      exact isI_ok n F H v _ s Q sm r1 e q
    · cases e
  · cases e
section
variable {X : Cx} {c : Ct} {e : Expr} {es : List Expr} {fs : List (Mn A)} {pos p : Pos} {a b : Expr}
theorem he_len (hK : c.K = X.K) (hm : X.mg "len" = none) (hg : Gl X "len") (ha : PA X [e] (TAs c fs)) (he : starEach (e :: []) X.env = (false, eval e X.env) :: starEach [] X.env := by rfl) : PE X (.Call (.Name "len" p) [e] [] pos) (T c (callN (b1 oLen) fs)) := he_bi call_len (OpN.b1 (hK ▸ oLen_ok)) hg hm boot_len ha (he := he)
theorem he_intOf (hm : X.mg "int" = none) (hg : Gl X "int") (ha : PA X [e] (TAs c fs)) (he : starEach (e :: []) X.env = (false, eval e X.env) :: starEach [] X.env := by rfl) : PE X (.Call (.Name "int" p) [e] [] pos) (T c (callN (b1 oInt) fs)) := he_bt call_int1 (OpN.b1 oInt_ok) hg hm (by decide +kernel) ha (he := he)
theorem he_strOf (hm : X.mg "str" = none) (hg : Gl X "str") (ha : PA X [e] (TAs c fs)) (he : starEach (e :: []) X.env = (false, eval e X.env) :: starEach [] X.env := by rfl) : PE X (.Call (.Name "str" p) [e] [] pos) (T c (callN (b1 oStr) fs)) := he_bt call_str_int (OpN.b1 oStr_ok) hg hm (by decide +kernel) ha (he := he)
theorem he_abs (hm : X.mg "abs" = none) (hg : Gl X "abs") (ha : PA X [e] (TAs c fs)) (he : starEach (e :: []) X.env = (false, eval e X.env) :: starEach [] X.env := by rfl) : PE X (.Call (.Name "abs" p) [e] [] pos) (T c (callN (b1 oAbs) fs)) := he_bi call_abs (OpN.b1 oAbs_ok) hg hm (by decide +kernel) ha (he := he)
theorem he_tuple (hK : c.K = X.K) (hm : X.mg "tuple" = none) (hg : Gl X "tuple") (ha : PA X [e] (TAs c fs)) (he : starEach (e :: []) X.env = (false, eval e X.env) :: starEach [] X.env := by rfl) : PE X (.Call (.Name "tuple" p) [e] [] pos) (T c (callN (b1 oTuple) fs)) := he_bt call_tuple_of (OpN.b1 (hK ▸ oTuple_ok)) hg hm (by decide +kernel) ha (he := he)
theorem he_list (hK : c.K = X.K) (hm : X.mg "list" = none) (hg : Gl X "list") (ha : PA X [e] (TAs c fs)) (he : starEach (e :: []) X.env = (false, eval e X.env) :: starEach [] X.env := by rfl) : PE X (.Call (.Name "list" p) [e] [] pos) (T c (callN (b1 oList) fs)) := he_bt call_list_of (OpN.b1 (hK ▸ oList_ok)) hg hm (by decide +kernel) ha (he := he)
theorem he_sum (hK : c.K = X.K) (hc : X.calm = true) (hm : X.mg "sum" = none) (hg : Gl X "sum") (ha : PA X [e] (TAs c fs)) (he : starEach (e :: []) X.env = (false, eval e X.env) :: starEach [] X.env := by rfl) : PE X (.Call (.Name "sum" p) [e] [] pos) (T c (callN (b1 oSum) fs)) := he_bi (cr_sumQ hc) (OpN.b1 (hK ▸ oSum_ok)) hg hm (by decide +kernel) ha (he := he)
theorem he_max (hK : c.K = X.K) (hc : X.calm = true) (hm : X.mg "max" = none) (hg : Gl X "max") (ha : PA X [e] (TAs c fs)) (he : starEach (e :: []) X.env = (false, eval e X.env) :: starEach [] X.env := by rfl) : PE X (.Call (.Name "max" p) [e] [] pos) (T c (callN (b1 oMax) fs)) := he_bi (cr_maxQ hc) (OpN.b1 (hK ▸ oMax_ok)) hg hm (by decide +kernel) ha (he := he)
theorem he_min (hK : c.K = X.K) (hc : X.calm = true) (hm : X.mg "min" = none) (hg : Gl X "min") (ha : PA X [e] (TAs c fs)) (he : starEach (e :: []) X.env = (false, eval e X.env) :: starEach [] X.env := by rfl) : PE X (.Call (.Name "min" p) [e] [] pos) (T c (callN (b1 oMin) fs)) := he_bi (cr_minQ hc) (OpN.b1 (hK ▸ oMin_ok)) hg hm (by decide +kernel) ha (he := he)
theorem he_max2 (hc : X.calm = true) (hm : X.mg "max" = none) (hg : Gl X "max") (ha : PA X [a, b] (TAs c fs)) (he : starEach (a :: [b]) X.env = (false, eval a X.env) :: starEach [b] X.env := by rfl) (hpl : (backTo pos (starEach [b] X.env)).any (·.1) = false := by rfl) : PE X (.Call (.Name "max" p) [a, b] [] pos) (T c (callN (b2 oMax2) fs)) := he_bi (call_max2 hc) (OpN.b2 i2_list) hg hm (by decide +kernel) ha (he := he) (hpl := hpl)
theorem he_min2 (hc : X.calm = true) (hm : X.mg "min" = none) (hg : Gl X "min") (ha : PA X [a, b] (TAs c fs)) (he : starEach (a :: [b]) X.env = (false, eval a X.env) :: starEach [b] X.env := by rfl) (hpl : (backTo pos (starEach [b] X.env)).any (·.1) = false := by rfl) : PE X (.Call (.Name "min" p) [a, b] [] pos) (T c (callN (b2 oMin2) fs)) := he_bi (call_min2 hc) (OpN.b2 i2_list) hg hm (by decide +kernel) ha (he := he) (hpl := hpl)
theorem he_sorted (hK : c.K = X.K) (hm : X.mg "sorted" = none) (hg : Gl X "sorted") (ha : PA X [e] (TAs c fs)) (he : starEach (e :: []) X.env = (false, eval e X.env) :: starEach [] X.env := by rfl) : PE X (.Call (.Name "sorted" p) [e] [] pos) (T c (callN (b1 oSorted) fs)) := he_bi cr_sortedI (OpN.b1 (hK ▸ oSorted_ok)) hg hm (by decide +kernel) ha (he := he)
theorem he_isi (n : TyN) (hK : c.K = X.K) (hm : X.mg "isinstance" = none) (hg : Gl X "isinstance") (ha : PA X [a, b] (TAs c fs)) (he : starEach (a :: [b]) X.env = (false, eval a X.env) :: starEach [b] X.env := by rfl) (hpl : (backTo pos (starEach [b] X.env)).any (·.1) = false := by rfl) : PE X (.Call (.Name "isinstance" p) [a, b] [] pos) (T c (callN (isiN n) fs)) := he_bi call_isi (hK ▸ isiN_ok n) hg hm (by decide +kernel) ha (he := he) (hpl := hpl)
theorem he_gcd (hm : X.mg "gcd" = some (.builtin "math.gcd")) (hg : Gl X "gcd") (ha : PA X [a, b] (TAs c fs)) (he : starEach (a :: [b]) X.env = (false, eval a X.env) :: starEach [b] X.env := by rfl) (hpl : (backTo pos (starEach [b] X.env)).any (·.1) = false := by rfl) : PE X (.Call (.Name "gcd" p) [a, b] [] pos) (T c (callN (b2 oGcd) fs)) := PE.mono (pe_callBfun cr_gcd hg hm ha (by decide) he hpl) (T_opN (OpN.b2 i2_list))
end
end FR

namespace FR
open PySem PySem.Spec L2
/-! ### calls of the program's defs -/
theorem units1 {k : Nat} {A : Around} (r : Room k A) : A.units + 1 < cLine := by have := r.units; omega
section
variable {X : Cx} {c : Ct} {k : Nat} {f : Addr} {fd : FuncData} {ps : List Str} {m : Fm} {x : Str} {p pos : Pos} {e : Expr} {es : List Expr} {fs : List (Mn A)}
theorem he_call (F : FnOk X.prog X.w X.K X.mg X.base CX0 k f fd ps (sp c.K ps.length m)) (hr : Room k X.A) (hg : Gl X x) (hm : X.mg x = some (.ref f)) (hk : PySem.W.keepIn X.K (.ref f) = true) (hb : Binds X.K fd ps []) (ha : PA X (e :: es) (TAs c fs)) (hl : fs.length = ps.length := by rfl)
    (hdb : (x == ("__debug__" : Str)) = false := by decide) (he : starEach (e :: es) X.env = (false, eval e X.env) :: starEach es X.env := by rfl) (hpl : (backTo pos (starEach es X.env)).any (·.1) = false := by rfl) :
    PE X (.Call (.Name x p) (e :: es) [] pos) (T c (callM m fs)) := PE.mono (pe_call F hr hg hm hk hb .nil pass0 ha hdb he hpl) fun σ H Q h => t_call hl σ H Q h
theorem he_call0 (F : FnOk X.prog X.w X.K X.mg X.base CX0 k f fd [] (sp c.K ([] : List Str).length m)) (hr : Room k X.A) (hg : Gl X x) (hm : X.mg x = some (.ref f)) (hk : PySem.W.keepIn X.K (.ref f) = true) (hb : Binds X.K fd [] [])
    (hdb : (x == ("__debug__" : Str)) = false := by decide) : PE X (.Call (.Name x p) [] [] pos) (T c (callM m [])) := PE.mono (pe_call0 F hr hg hm hk hb .nil pass0 hdb) fun σ H Q h => by
  have h2 := t_call (ps := []) (E := E0) rfl σ H Q h
  obtain ⟨F0, S0, R0, _⟩ := h
  obtain ⟨F1, S1, R1, h2⟩ := h2
  exact h2 [] F1 H (Step.refl R1) ⟨rfl, fun i v a q => by simp at q, fun i j x k k' q => by simp at q⟩
end
/-! keywords: all arguments by name; at place j of the parameters stands the value of the keyword is[j] -/
def pk {α : Type} (is : List Nat) (l : List α) : List α := is.filterMap fun i => l[i]?
theorem pk_get {α : Type} {l : List α} : ∀ {is : List Nat}, (∀ i ∈ is, i < l.length) → ∀ j : Nat, (pk is l)[j]? = is[j]?.bind (l[·]?)
  | [], _, j => by simp [pk]
  | i :: is, h, j => by
    have hi : i < l.length := h i List.mem_cons_self
    have e : pk (i :: is) l = l[i] :: pk is l := by unfold pk; rw [List.filterMap_cons, List.getElem?_eq_getElem hi]
    rw [e]
    cases j with
    | zero => simp [List.getElem?_eq_getElem hi]
    | succ j => simpa using pk_get (is := is) (fun i hi => h i (List.mem_cons_of_mem _ hi)) j
theorem pk_len {α : Type} {l : List α} : ∀ {is : List Nat}, (∀ i ∈ is, i < l.length) → (pk is l).length = is.length
  | [], _ => rfl
  | i :: is, h => by
    have hi : i < l.length := h i List.mem_cons_self
    have e : pk (i :: is) l = l[i] :: pk is l := by unfold pk; rw [List.filterMap_cons, List.getElem?_eq_getElem hi]
    rw [e, List.length_cons, pk_len fun i hi => h i (List.mem_cons_of_mem _ hi), List.length_cons]
theorem Vals.get : ∀ {vs : List V} {us : List Value} (_ : Vals vs us) (i : Nat), (∃ v u, vs[i]? = some v ∧ us[i]? = some u ∧ RelV v u) ∨ (vs[i]? = none ∧ us[i]? = none)
  | _, _, .nil, i => .inr ⟨by simp, by simp⟩
  | _, _, .cons r rs, 0 => .inl ⟨_, _, rfl, rfl, r⟩
  | _, _, .cons r rs, i + 1 => by simpa using Vals.get rs i
theorem Vals.pk {vs : List V} {us : List Value} (h : Vals vs us) : ∀ is : List Nat, Vals (FR.pk is vs) (FR.pk is us)
  | [] => .nil
  | i :: is => by
    unfold FR.pk
    rw [List.filterMap_cons, List.filterMap_cons]
    rcases Vals.get h i with ⟨v, u, e1, e2, r⟩ | ⟨e1, e2⟩
    · rw [e1, e2]; exact .cons r (Vals.pk h is)
    · rw [e1, e2]; exact Vals.pk h is
theorem FunD.kbn {K : PySem.W.Frag} {x qual : Str} {params : Arguments} {body : List Stmt} {scope : Scope} {kws : List (Str × V)} {f : Addr} {fd : FuncData} {ps : List Str} (F : FunD K x qual params body scope [] kws f fd) (ks : List Str) (is : List Nat)
    (h : ∀ (kV doc pm : Value) (an : Option Addr) (cdv ct : Value) (ws : List Value), ws.length = ks.length → bindArgs (PySem.W.fnOf x qual params body scope .none kV doc pm an cdv ct) ⟨[], ks.zip ws⟩ = pure (ps.zip (pk is ws))) : KBn K fd ps 0 ks (fun us ws => pk is (us ++ ws)) (fun vs zs => pk is (vs ++ zs)) := by
  obtain ⟨oc, od, dV, kV, doc, pm, an, cdv, ct, osl, rfl, lk, hcd, hD, hK⟩ := F.ex
  rcases hD with ⟨_, rfl⟩ | ⟨e, _⟩
  · refine ⟨fun s us ws X l1 l2 => ?_, fun r1 r2 => Vals.pk (r1.append r2) is⟩
    cases us with
    | nil => exact .of_eq (h kV doc pm an cdv ct ws l2)
    | cons a b => cases l1
  · exact absurd rfl e
/-- a def called by keywords -/
@[simp] def callK (is : List Nat) (m : Fm) (fs : List (Mn A)) : Mn A := bnd (evs fs) fun as0 S => match views (pk is as0) S with
  | some os => if (loans (pk is as0) S).Nodup then (match m os with
    | .ok r S' => .ok (.v r) (back (pk is as0) S' S)
    | _ => .bad) else .bad
  | none => .bad
section
variable {K : PySem.W.Frag} {σ : St} {F H H0 : Hp} {S : Sl} {vs : List V} {as : List A}
theorem RAs.pk {is : List Nat} (ra : RAs K H0 σ F H S vs as) (hi : ∀ i ∈ is, i < as.length) (hn : is.Nodup) : RAs K H0 σ F H S (FR.pk is vs) (FR.pk is as) := by
  have hv : ∀ i ∈ is, i < vs.length := by rw [ra.len]; exact hi
  refine ⟨by rw [pk_len hi, pk_len hv], fun i v a h1 h2 => ?_, fun i j x k k' h1 h2 h3 h4 => ?_⟩
  · rw [pk_get hv] at h1
    rw [pk_get hi] at h2
    obtain ⟨q, e1, e2⟩ := Option.bind_eq_some_iff.mp h1
    obtain ⟨q', e3, e4⟩ := Option.bind_eq_some_iff.mp h2
    rw [e1] at e3; cases e3
    exact ra.at_ q v a e2 e4
  · rw [pk_get hv] at h3 h4
    rw [pk_get hi] at h1 h2
    obtain ⟨q, e1, e2⟩ := Option.bind_eq_some_iff.mp h1
    obtain ⟨q', e3, e4⟩ := Option.bind_eq_some_iff.mp h2
    rw [e1] at h3
    rw [e3] at h4
    have := ra.ne q q' x k k' e2 e4 h3 h4
    subst this
    rw [← e3] at e1
    have li : i < is.length := by
      rcases Nat.lt_or_ge i is.length with h | h
      · exact h
      · rw [e3, List.getElem?_eq_none h] at e1; cases e1
    exact (List.getElem?_inj li hn).mp e1
end
section
variable {X : Cx} {c : Ct} {k : Nat} {f : Addr} {fd : FuncData} {ps ks : List Str} {is : List Nat} {m : Fm} {x : Str} {p pos kpos : Pos} {e : Expr} {kws : List Keyword} {g : Mn A} {fs : List (Mn A)} {nm : Option Str}
theorem PK.mono {t t' : TA} (h : PK X kws t) (m : ∀ σ H Q, t' σ H Q → t σ H Q) : PK X kws t' := ⟨fun pos pins s σ H Q I q => h.run pos pins s σ H Q I (m σ H Q q)⟩
theorem tas_cons (σ : St) (H : Hp) (Q : List V → Hp → Prop) (h : TAs c (g :: fs) σ H Q) : tCons (T c g) (TAs c fs) σ H Q := by
  obtain ⟨F0, S0, R0, h⟩ := h
  refine G.imp (Gat.bind (Step.refl R0) h) fun v H1 ⟨a, F1, S1, s1, _, ra, g1⟩ => ?_
  refine G.imp (Gat.bind (RR := RAs c.K) s1 g1) fun vs H2 ⟨as, F2, S2, s2, s12, rs, g2⟩ => ?_
  refine g2 (v :: vs) F2 H2 s2 ⟨by rw [List.length_cons, List.length_cons, rs.len], fun i u b q1 q2 => ?_, fun i j x k k' q1 q2 q3 q4 => ?_⟩
  · cases i with
    | zero => simp at q1 q2; subst q1; subst q2; exact ra.step s12
    | succ i => exact (rs.at_ i u b (by simpa using q1) (by simpa using q2)).older s1
  · have key : ∀ (j : Nat) (k' : C), a = .v (.own k) → v = .ref x → as[j]? = some (.v (.own k')) → vs[j]? = some (.ref x) → False := fun j k' ea ev p2 p4 => by
      subst ea ev
      obtain ⟨b, eb, _, rc, _, _⟩ := ra
      cases eb
      obtain ⟨o, ho⟩ := rc.any
      obtain ⟨b', eb', _, _, _, nw⟩ := rs.at_ j _ _ p4 p2
      cases eb'
      rw [ho] at nw
      cases nw
    have key2 : ∀ (j : Nat) (k : C), a = .v (.own k') → v = .ref x → as[j]? = some (.v (.own k)) → vs[j]? = some (.ref x) → False := fun j k ea ev p2 p4 => by
      subst ea ev
      obtain ⟨b, eb, _, rc, _, _⟩ := ra
      cases eb
      obtain ⟨o, ho⟩ := rc.any
      obtain ⟨b', eb', _, _, _, nw⟩ := rs.at_ j _ _ p4 p2
      cases eb'
      rw [ho] at nw
      cases nw
    cases i with
    | zero =>
      cases j with
      | zero => rfl
      | succ j => simp at q1 q2 q3 q4; exact (key j k' q1 q3 q2 q4).elim
    | succ i =>
      cases j with
      | zero => simp at q1 q2 q3 q4; exact (key2 i k q2 q4 q1 q3).elim
      | succ j => simp at q1 q2 q3 q4; exact congrArg (· + 1) (rs.ne i j x k k' q1 q2 q3 q4)
theorem hk_nil : PK X [] (TAs c []) := PK.mono pk_nil fun σ H Q h => by
  obtain ⟨F, S, R, h⟩ := h
  exact h [] F H (Step.refl R) ⟨rfl, fun i v a q => by simp at q, fun i j x k k' q => by simp at q⟩
theorem hk_cons (ha : PE X e (T c g)) (hr : PK X kws (TAs c fs)) : PK X (⟨nm, e, kpos⟩ :: kws) (TAs c (g :: fs)) := PK.mono (pk_cons ha hr) tas_cons
theorem t_callK {E : XK} (hl : is.length = ps.length) (hi : ∀ i ∈ is, i < fs.length) (hn : is.Nodup) (σ : St) (H : Hp) (Q : VK) (h : T c (callK is m fs) σ H Q) : TAs c fs σ H fun zs H1 => zs.length = fs.length ∧ sp c.K ps.length m (pk is ([] ++ zs)) H1 Q E := by
  obtain ⟨F0, S0, R0, h⟩ := h
  refine ⟨F0, S0, R0, ?_⟩
  simp only [callK, bnd] at h
  cases e : evs fs S0 with
  | bad => rw [e] at h; exact h
  | exc y S' => rw [e] at h; exact h
  | ok as0 S1 =>
    rw [e] at h
    simp only at h
    intro vs0 F1 H1 s1 ra00
    have hla : as0.length = fs.length := evs_len e
    have ra0 := RAs.pk (is := is) ra00 (by rw [hla]; exact hi) hn
    rw [List.nil_append]
    generalize pk is as0 = as at *
    generalize hvs : pk is vs0 = vs at *
    cases ev : views as S1 with
    | none => rw [ev] at h; exact h.elim
    | some os =>
      rw [ev] at h
      simp only at h
      split at h
      · rename_i nd
        have hn : vs.length = ps.length := by rw [← hvs, pk_len (by rw [ra00.len, hla]; exact hi), hl]
        refine ⟨by rw [ra00.len, hla], hn, F1, os, ra0.rel s1.rel ev nd, ?_⟩
        cases em : m os with
        | bad => rw [em] at h; exact h
        | exc y S' => rw [em] at h; exact h
        | ok r S' =>
          rw [em] at h
          intro v F' H' st rt
          obtain ⟨st2, rt2⟩ := call_step' s1 ra0 ev nd st
          exact h v F' H' st2 (rt2 v r rt)
      · exact h.elim
theorem he_callK (is : List Nat) (F : FnOk X.prog X.w X.K X.mg X.base CX0 k f fd ps (sp c.K ps.length m)) (hr : Room k X.A) (hg : Gl X x) (hm : X.mg x = some (.ref f)) (hk : PySem.W.keepIn X.K (.ref f) = true) (hb : KBn X.K fd ps 0 ks (fun us ws => pk is (us ++ ws)) (fun vs zs => pk is (vs ++ zs))) (ha : PK X kws (TAs c fs))
    (hl : is.length = ps.length := by rfl) (hi : ∀ i ∈ is, i < fs.length := by decide) (hn : is.Nodup := by decide) (hlk : fs.length = ks.length := by rfl)
    (hall : (backToKw pos (keywordEach kws X.env)).all (·.1.isSome) = true := by rfl) (hks : (backToKw pos (keywordEach kws X.env)).filterMap (·.1) = ks := by rfl) (hdb : (x == ("__debug__" : Str)) = false := by decide)
    (hpl : ((backTo pos (starEach [] X.env)).any (·.1) || (backToKw pos (keywordEach kws X.env)).any (·.1.isNone)) = false := by rfl) : PE X (.Call (.Name x p) [] kws pos) (T c (callK is m fs)) := by
  refine ⟨fun pins s σ H Q I h => ?_⟩
  refine wpAny_Call_Name_kw (ld_glob I hg hm ?_ hdb)
  refine PySem.W.callWith_KW0 (h₀ := X.base) I.ok.mod.kin hk hall ?_ hpl
  refine thn (ha.run pos pins s σ H _ I (t_callK (E := E0) hl hi hn σ H Q h)) fun ws s2 ⟨zs, H2, I2, rz, l2, q2⟩ => ⟨I2.kIn, ?_⟩
  rw [hks]
  exact run_fnN F hr hb pass0 I2 .nil rz rfl (l2.trans hlk) q2
end
end FR

namespace FR
open PySem PySem.Spec L2 RZ _root_.RT
/-- the loop of a comprehension: acc is what is made so far -/
def dcL (vs : List Nat) (g : O → Mn Unit) (p : Mn Bool) (fk f : Mn A) : List D → List (Key × D) → Mn (List (Key × D))
  | [], acc => ret acc
  | d :: ds, acc => bnd (g (.d d)) fun _ => bnd p fun t => match t with
    | true => bnd fk fun a => bnd (toD a) fun y => bnd f fun b => bnd (toD b) fun z S => match keyOf y with
      | some k => if acc.length < lim then dcL vs g p fk f ds (putD acc k z) (wipeS S vs) else .bad
      | none => .bad
    | false => fun S => dcL vs g p fk f ds acc (wipeS S vs)
def dcA (vs : List Nat) (s : Mn (List D)) (g : O → Mn Unit) (p : Mn Bool) (fk f : Mn A) : Mn A := bnd s fun ds S => match dcL vs g p fk f ds [] (wipeS S vs) with
  | .ok acc S' => .ok (.v (.own (.dk acc))) (restS S vs S')
  | _ => .bad
section
variable {X : Cx} {c : Ct} {vs : List Nat} {s : Mn (List D)} {g : O → Mn Unit} {p : Mn Bool} {fk f : Mn A}
/-- a target's, a test's, an element's reading, whatever the block's start -/
theorem t_dc {wi : TI} (hwi : ∀ σ H Z, TIt c s σ H Z → wi σ H Z) {gg : TG} {tt : TT} {tk te : TE} (hg : ∀ σ F H S, ∀ v σ' H' Q, tG (ctB c vs σ F H S) g v σ' H' Q → gg v σ' H' Q) (ht : ∀ σ F H S, ∀ σ' H' Q, TB (ctB c vs σ F H S) p σ' H' Q → tt σ' H' Q) (hkk : ∀ σ F H S, ∀ σ' H' Q, T (ctB c vs σ F H S) fk σ' H' Q → tk σ' H' Q) (he : ∀ σ F H S, ∀ σ' H' Q, T (ctB c vs σ F H S) f σ' H' Q → te σ' H' Q)
    (σ : St) (H : Hp) (Q : VK) (q : T c (dcA vs s g p fk f) σ H Q) : tDc wi gg tt tk te vs σ H Q := by
  obtain ⟨F0, S0, R0, q⟩ := q
  refine hwi σ H _ (G.imp (Gat.bind (RR := RSrc c.K) (Step.refl R0) q) fun J H1 ⟨ds, F1, S1, s1, _, rl, q1⟩ => ?_)
  intro Da hD
  cases ec : dcL vs g p fk f ds [] (wipeS S1 vs) with
  | bad => rw [ec] at q1; exact q1.elim
  | exc x S' => rw [ec] at q1; exact q1.elim
  | ok accE SE =>
    rw [ec] at q1
    have R1 := s1.rel
    have fD : F1 Da = none := R1.sub.free hD
    have Rw : Rel c.K F1 H1 (L2.wipe σ vs) (wipeS S1 vs) := R1.wipe rfl
    -- from the block's start to the end
    have fin : ∀ {F2 H2 : Hp} {vacc : List (Key × V)}, Step c.K (fxv vs) (L2.wipe σ vs) F1 H1 (wipeS S1 vs) (L2.wipe σ vs) F2 H2 SE → H2 Da = some (.dK vacc) → RKs c.K F2 vacc accE → F2 Da = none → ¬ Own (L2.wipe σ vs) SE Da → Q (.ref Da) H2 := fun {F2 H2 vacc} st h1 h2 h3 h4 => by
      have key : ∀ {i : Nat} {r : O}, (restS S1 vs SE)[i]? = some (some r) → (∃ x, r = .d x ∧ S1[i]? = some (some (.d x))) ∨ (SE[i]? = some (some r) ∧ (L2.wipe σ vs)[i]? = σ[i]? ∧ i ∉ vs) := fun {i r} h => by
        rcases restS_get h with z | ⟨z1, z2⟩
        · exact .inl z
        · exact .inr ⟨z2, wipe_out z1, z1⟩
      have st2 : Step c.K c.fx σ F1 H1 S1 σ F2 H2 (restS S1 vs SE) := by
        have toOwn : ∀ b, Own (L2.wipe σ vs) (wipeS S1 vs) b → Own σ S1 b := fun b ⟨i, k, e1, e2⟩ => by
          obtain ⟨a1, a2⟩ := wipeS_get e1
          exact ⟨i, k, a1, by rw [← wipe_out a2]; exact e2⟩
        refine ⟨⟨st.rel.sub, fun i r h => ?_, fun i j k k' a q1 q2 q3 q4 => ?_, ?_⟩, st.mono, fun b o e m => st.frame b o e fun z => m (toOwn b z), st.there, fun b o e => ?_, fun i k b e1 e2 => ?_, fun _ _ => rfl, rfl⟩
        · rcases key h with ⟨x, rfl, e⟩ | ⟨e, e2, _⟩
          · obtain ⟨v, e3, ro⟩ := R1.sl i _ e
            exact ⟨v, e3, RV.mono st.mono ro⟩
          · obtain ⟨v, e3, ro⟩ := st.rel.sl i r e
            exact ⟨v, by rw [← e2]; exact e3, ro⟩
        · rcases key q1 with ⟨x, e, _⟩ | ⟨e, e2, _⟩
          · cases e
          · rcases key q2 with ⟨x, e', _⟩ | ⟨e', e2', _⟩
            · cases e'
            · exact st.rel.inj i j k k' a e e' (by rw [e2]; exact q3) (by rw [e2']; exact q4)
        · rw [restS_len, st.rel.len, wipe_length]
        · rcases st.grow b o e with z | z | z
          · exact .inl z
          · exact .inr (.inl z)
          · exact .inr (.inr (toOwn b z))
        · rcases key e1 with ⟨x, e, _⟩ | ⟨e, e3, hi⟩
          · cases e
          · rcases st.own i k b e (by rw [e3]; exact e2) with ⟨k0, y1, y2⟩ | y
            · exact .inl ⟨k0, (wipeS_get y1).1, e2⟩
            · exact .inr y
      refine q1 _ F2 H2 (s1.trans st2) ⟨Da, rfl, h3, ⟨vacc, h1, h2⟩, fun ⟨i, k, e1, e2⟩ => ?_, s1.non0 hD⟩
      rcases key e1 with ⟨x, e, _⟩ | ⟨e, e3, _⟩
      · cases e
      · exact h4 ⟨i, k, e, by rw [e3]; exact e2⟩
    -- the invariant
    refine ⟨fun i m H2 => i + m = ds.length ∧ ∃ F2 Sx acc vacc, Step c.K (fxv vs) (L2.wipe σ vs) F1 H1 (wipeS S1 vs) (L2.wipe σ vs) F2 H2 Sx ∧ H2 Da = some (.dK vacc) ∧ RKs c.K F2 vacc acc ∧ F2 Da = none ∧ ¬ Own (L2.wipe σ vs) Sx Da ∧ dcL vs g p fk f (ds.drop i) acc Sx = .ok accE SE,
      ⟨ds.length, by omega, F1, wipeS S1 vs, [], [], ?_, upd_same, .nil, fD, fun z => ?_, by rw [List.drop_zero]; exact ec⟩, fun i m H2 ⟨hm, F2, Sx, acc, vacc, st, hDa, rva, fDa, noD, eq⟩ => ?_⟩
    · exact (Grow.cell R1.sub hD).step Rw
    · obtain ⟨_, u, hu⟩ := Rw.own z
      rw [hD] at hu
      cases hu
    · obtain ⟨go, stop, yld⟩ := rl F2 H2 st.mono st.rel.sub
      by_cases hi : i < ds.length
      · refine .inr ⟨go i hi, fun H3 => (i + 1) + (m - 1) = ds.length ∧ ∃ F2 Sx acc vacc, Step c.K (fxv vs) (L2.wipe σ vs) F1 H1 (wipeS S1 vs) (L2.wipe σ vs) F2 H3 Sx ∧ H3 Da = some (.dK vacc) ∧ RKs c.K F2 vacc acc ∧ F2 Da = none ∧ ¬ Own (L2.wipe σ vs) Sx Da ∧ dcL vs g p fk f (ds.drop (i + 1)) acc Sx = .ok accE SE, fun H' h => ⟨m - 1, by omega, h⟩, fun x H3 y => ?_⟩
        obtain ⟨F3, gr, rv⟩ := yld i ds[i] x H3 (List.getElem?_eq_getElem hi) y
        have n3 := gr.step (fx := fxv vs) (σ := L2.wipe σ vs) st.rel
        have hDa3 : H3 Da = some (.dK vacc) := gr.hm _ _ hDa
        rw [List.drop_eq_getElem_cons hi] at eq
        unfold dcL at eq
        simp only [bnd] at eq
        refine hg (L2.wipe σ vs) F3 H3 Sx x (L2.wipe σ vs) H3 _ ⟨F3, Sx, .d ds[i], Step.refl n3.rel, rv, ?_⟩
        cases eg : g (.d ds[i]) Sx with
        | bad => rw [eg] at eq; cases eq
        | exc x S' => rw [eg] at eq; cases eq
        | ok u S4 =>
          rw [eg] at eq
          simp only at eq
          intro σ4 F4 H4 n4 m4
          have ew : L2.wipe σ4 vs = L2.wipe σ vs := by
            have := wipe_fix (σ2 := σ4) (σ := L2.wipe σ vs) (vs := vs) n4.fix n4.ln
            rw [wipe_wipe] at this
            exact this
          refine ⟨ew, ht (L2.wipe σ vs) F3 H3 Sx σ4 H4 _ ⟨F4, S4, n4.rel, ?_⟩⟩
          -- where Da stands in each later state of this turn
          have keep : ∀ {σ5 : St} {F5 H5 : Hp} {S5 : Sl}, Step c.K (fxv vs) (L2.wipe σ vs) F3 H3 Sx σ5 F5 H5 S5 → H5 Da = some (.dK vacc) ∧ F5 Da = none ∧ ¬ Own σ5 S5 Da := fun {σ5 F5 H5 S5} n5 => by
            refine ⟨n5.frame _ _ hDa3 noD, ?_, fun z => ?_⟩
            · cases qq : F5 Da with
              | none => rfl
              | some u =>
                rcases n5.grow Da u qq with z | z | z
                · rcases gr.gr Da u z with y | y
                  · rw [fDa] at y; cases y
                  · rw [hDa] at y; cases y
                · rw [hDa3] at z; cases z
                · exact absurd z noD
            · rcases n5.ownA Da z with y | y
              · exact noD y
              · rw [hDa3] at y; cases y
          have sall : ∀ {σ5 : St} {F5 H5 : Hp} {S5 : Sl}, Step c.K (fxv vs) (L2.wipe σ vs) F3 H3 Sx σ5 F5 H5 S5 → L2.wipe σ5 vs = L2.wipe σ vs → Step c.K (fxv vs) (L2.wipe σ vs) F1 H1 (wipeS S1 vs) (L2.wipe σ vs) F5 H5 (wipeS S5 vs) := fun {σ5 F5 H5 S5} n5 e5 =>
            Step.wipe (σ0 := L2.wipe σ vs) ((st.trans n3).trans n5) (by rw [e5, wipe_wipe]) wipe_wipe
          cases ep : p S4 with
          | bad => rw [ep] at eq; cases eq
          | exc x S' => rw [ep] at eq; cases eq
          | ok t S5 =>
            rw [ep] at eq
            intro t' F5 H5 n5 et
            have et' : t' = t := et
            subst et'
            have n45 := n4.trans n5
            cases t' with
            | false =>
              refine iteF ?_
              simp only at eq
              obtain ⟨k1, k2, k3⟩ := keep n45
              refine ⟨by omega, F5, wipeS S5 vs, acc, vacc, sall n45 ew, k1, rva.mono (gr.fm.trans n45.mono), k2, fun z => k3 ?_, eq⟩
              obtain ⟨j, k, e1, e2⟩ := z
              obtain ⟨a1, a2⟩ := wipeS_get e1
              exact ⟨j, k, a1, by rw [← wipe_out (σ := σ4) a2, ew]; exact e2⟩
            | true =>
              refine iteT ?_
              simp only [bnd] at eq
              refine hkk (L2.wipe σ vs) F3 H3 Sx σ4 H5 _ ⟨F5, S5, n45.rel, ?_⟩
              cases ef : fk S5 with
              | bad => rw [ef] at eq; cases eq
              | exc x S' => rw [ef] at eq; cases eq
              | ok a S6 =>
                rw [ef] at eq
                simp only at eq
                intro w F6 H6 n6 ra
                cases ed : toD a S6 with
                | bad => rw [ed] at eq; cases eq
                | exc x S' => exact absurd ed toD_exc
                | ok y S7 =>
                  rw [ed] at eq
                  simp only at eq
                  obtain ⟨F7, n7, m7, rvy, _⟩ := toD_ok n6 ra ed
                  refine he (L2.wipe σ vs) F3 H3 Sx σ4 H6 _ ⟨F7, S7, n7.rel, ?_⟩
                  cases eg2 : f S7 with
                  | bad => rw [eg2] at eq; cases eq
                  | exc x S' => rw [eg2] at eq; cases eq
                  | ok a2 S8 =>
                    rw [eg2] at eq
                    simp only at eq
                    intro w2 F8 H8 n8 ra2
                    cases ed2 : toD a2 S8 with
                    | bad => rw [ed2] at eq; cases eq
                    | exc x S' => exact absurd ed2 toD_exc
                    | ok y2 S9 =>
                      rw [ed2] at eq
                      simp only at eq
                      obtain ⟨F9, n9, m9, rvy2, _⟩ := toD_ok n8 ra2 ed2
                      have n57 := (n45.trans n7).trans n9
                      obtain ⟨k1, k2, k3⟩ := keep n57
                      split at eq
                      · rename_i key ek
                        split at eq
                        · rename_i hl
                          have hvl : vacc.length = acc.length := rva.length
                          have ey : w = kV key := keyOf_ok rvy ek
                          refine ⟨vacc, key, ey, k1, by rw [hvl]; exact Nat.lt_of_lt_of_le hl lim_le, by omega, F9, wipeS S9 vs, putD acc key y2, putK vacc key w2, ?_, upd_same, (rva.mono (gr.fm.trans n57.mono)).put rvy2, k2, fun z => k3 ?_, eq⟩
                          · -- the dict grows
                            have b := sall n57 ew
                            refine ⟨⟨fun b' o e => ?_, fun j r h => ?_, b.rel.inj, b.rel.len⟩, b.mono, fun b' o e m => ?_, fun b' o e => ?_, b.grow, b.own, b.fix, b.ln⟩
                            · by_cases hb : b' = Da
                              · subst hb; rw [k2] at e; cases e
                              · rw [upd_ne hb]; exact b.rel.sub b' o e
                            · obtain ⟨v, e1, ro⟩ := b.rel.sl j r h
                              refine ⟨v, e1, ?_⟩
                              cases r with
                              | d x => exact ro
                              | own k =>
                                obtain ⟨pa, e2, fpa, rc⟩ := ro
                                refine ⟨pa, e2, fpa, rc.mono (Same.refl _) fun o e => ?_⟩
                                have hb : pa ≠ Da := fun z => by
                                  subst z
                                  obtain ⟨h1, h2⟩ := wipeS_get h
                                  refine k3 ⟨j, k, h1, ?_⟩
                                  rw [← wipe_out (σ := σ4) h2, ew, e1, e2]
                                rw [upd_ne hb]
                                exact e
                            · by_cases hb : b' = Da
                              · subst hb; rw [hD] at e; cases e
                              · rw [upd_ne hb]; exact b.frame b' o e m
                            · by_cases hb : b' = Da
                              · exact ⟨_, by rw [hb]; exact upd_same⟩
                              · rw [upd_ne hb]; exact b.there b' o e
                          · obtain ⟨j, k, e1, e2⟩ := z
                            obtain ⟨a1, a2⟩ := wipeS_get e1
                            exact ⟨j, k, a1, by rw [← wipe_out (σ := σ4) a2, ew]; exact e2⟩
                        · cases eq
                      · cases eq
      · have e : i = ds.length := by omega
        subst e
        rw [List.drop_length] at eq
        cases eq
        exact .inl ⟨stop, fin st hDa rva fDa noD⟩
end
section
variable {X : Cx} {c : Ct} {elt tg iter kx : Expr} {ifs : List Expr} {scope : Scope} {own : List (Str × Nat)} {vs : List Nat} {s : Mn (List D)} {g : O → Mn Unit} {p : Mn Bool} {fk f : Mn A} {pos : Pos}
theorem t_dc' (σ : St) (H : Hp) (Q : VK) (q : T c (dcA vs s g p fk f) σ H Q) : tDc (TIt c s) (fun v σ' H' Q => ∃ a : St × Hp × Hp × Sl, tG (ctB c vs a.1 a.2.1 a.2.2.1 a.2.2.2) g v σ' H' Q) (fun σ' H' Q => ∃ a : St × Hp × Hp × Sl, TB (ctB c vs a.1 a.2.1 a.2.2.1 a.2.2.2) p σ' H' Q) (fun σ' H' Q => ∃ a : St × Hp × Hp × Sl, T (ctB c vs a.1 a.2.1 a.2.2.1 a.2.2.2) fk σ' H' Q) (fun σ' H' Q => ∃ a : St × Hp × Hp × Sl, T (ctB c vs a.1 a.2.1 a.2.2.1 a.2.2.2) f σ' H' Q) vs σ H Q :=
  t_dc (fun _ _ _ q => q) (fun σ F H S v σ' H' Q q => ⟨(σ, F, H, S), q⟩) (fun σ F H S σ' H' Q q => ⟨(σ, F, H, S), q⟩) (fun σ F H S σ' H' Q q => ⟨(σ, F, H, S), q⟩) (fun σ F H S σ' H' Q q => ⟨(σ, F, H, S), q⟩) σ H Q q
/-- {k: v for .. in ..}: b the value's block, bk the key's -/
theorem he_dc (hc : X.calm = true) (hN : X.N.Nodup) (hi : PI X tg iter (TIt c s)) (ok : BlkOk X.N X.env.scope scope own) (hv : own.map (·.2) = vs) (b : Blk X c vs tg elt ifs scope g p f) (bk : Blk X c vs tg kx ifs scope g p fk)
    (hs : ∀ x, foldedSetIterable iter X.env x = pure x := by intro _; rfl) : PE X (.DictComp kx elt [⟨tg, iter, ifs, 0⟩] scope pos) (T c (dcA vs s g p fk f)) := by
  subst hv
  exact PE.mono (pe_dc hc hN hi ok (fun s H C cl fp => PG.ex fun a => b.g s H C cl fp a.1 a.2.1 a.2.2.1 a.2.2.2) (fun s H C cl fp => PTs.ex fun a => b.t s H C cl fp a.1 a.2.1 a.2.2.1 a.2.2.2) (fun s H C cl fp => PE.ex fun a => bk.e s H C cl fp a.1 a.2.1 a.2.2.1 a.2.2.2) (fun s H C cl fp => PE.ex fun a => b.e s H C cl fp a.1 a.2.1 a.2.2.1 a.2.2.2) hs) t_dc'
end
end FR

namespace FR
open PySem PySem.Spec L2 RZ _root_.RT
/-! ### methods that read alone -/
def KndOk (K : PySem.W.Frag) (T : String) (knd : O → Bool) : Prop := ∀ F H v r, Same F H → RO K F H v r → knd r = true → tyV K T v H
def OpM (K : PySem.W.Frag) (g : O → List O → Option O) (R : V → List V → Hp → VK → Prop) : Prop :=
  ∀ F H v r vs rs s Q, Same F H → RO K F H v r → ROs K F H vs rs → g r rs = some s → (∀ v' F' H', Grow F H F' H' → RN K H F' H' v' s → Q v' H') → R v vs H Q
@[simp] def methN (knd : O → Bool) (g : O → List O → Option O) (f : Mn A) (fs : List (Mn A)) : Mn A := bnd f fun a S => match view a S with
  | some x => if knd x then bnd (evs fs) (fun as S' => lift ((view a S').bind fun x => (views as S').bind (g x)) S') S else .bad
  | none => .bad
theorem t_methN {c : Ct} {T : String} {knd : O → Bool} {g : O → List O → Option O} {R : V → List V → Hp → VK → Prop} {f : Mn A} {fs : List (Mn A)} (hk : KndOk c.K T knd) (ho : OpM c.K g R) (σ : St) (H : Hp) (Q : VK) (q : FR.T c (methN knd g f fs) σ H Q) : tBM c.K T R (FR.T c f) (TAs c fs) σ H Q := by
  obtain ⟨F0, S0, R0, q⟩ := q
  refine G.imp (Gat.bind (Step.refl R0) q) fun v H1 ⟨a, F1, S1, s1, _, ra, g1⟩ => ?_
  cases ev : view a S1 with
  | none => rw [ev] at g1; exact g1.elim
  | some x =>
    rw [ev] at g1
    simp only at g1
    split at g1
    · rename_i hx
      refine ⟨hk F1 H1 v x s1.rel.sub (ra.ro s1.rel ev) hx, G.imp (Gat.bind (RR := RAs c.K) s1 g1) fun vs H2 ⟨as, F2, S2, s2, s12, rs, g2⟩ => ?_⟩
      obtain ⟨z, ez, k⟩ := gat_lift s2 g2
      obtain ⟨y, ey, ez⟩ := Option.bind_eq_some_iff.mp ez
      obtain ⟨os, eo, ez⟩ := Option.bind_eq_some_iff.mp ez
      exact ho F2 H2 v y vs os z Q s2.rel.sub ((ra.step s12).ro s2.rel ey) (rs.ros s2.rel eo) ez k
    · exact g1.elim
@[simp] def kLst (r : O) : Bool := (oL r).isSome
theorem kLst_ok {K : PySem.W.Frag} : KndOk K "list" kLst := by
  intro F H v r sm r1 e
  obtain ⟨xs, hx⟩ := Option.isSome_iff_exists.mp e
  obtain ⟨a, vs, rfl, h, _⟩ := r1.seqL sm hx
  exact .inl ⟨rfl, vs, h⟩
/-! xs.index(x), flat items -/
@[simp] def idxD (x : D) (xs : List D) : Option Nat := xs.findIdx? fun y => eqD y x
@[simp] def oIdx (r : O) : List O → Option O
  | [.d x] => match oL r with
    | some xs => if flatD x && xs.all flatD then (idxD x xs).map fun j => .d (.int (j : Nat)) else none
    | none => none
  | _ => none
theorem RVs.get2 {K : PySem.W.Frag} {F : Hp} : ∀ {vs : List V} {ds : List D}, RVs K F vs ds → ∀ (i : Nat), (∃ v d, vs[i]? = some v ∧ ds[i]? = some d ∧ RV K F v d) ∨ (vs[i]? = none ∧ ds[i]? = none)
  | _, _, .nil, i => .inr ⟨by simp, by simp⟩
  | _, _, .cons r rs, 0 => .inl ⟨_, _, rfl, rfl, r⟩
  | _, _, .cons r rs, i + 1 => by simpa using RVs.get2 rs i
theorem oIdx_ok {K : PySem.W.Frag} : OpM K oIdx (rIndex K) := by
  intro F H v r vs rs s Q sm r1 ro e q
  unfold oIdx at e
  split at e
  · rename_i x
    split at e
    · rename_i xs hx
      split at e
      · rename_i hf
        rw [Bool.and_eq_true] at hf
        obtain ⟨j, hj, rfl⟩ := Option.map_eq_some_iff.mp e
        obtain ⟨a, ys, rfl, h1, h2⟩ := r1.seqL sm hx
        obtain ⟨y, rfl, ry⟩ := ROs.one ro
        obtain ⟨hlt, h3, h4⟩ := List.findIdx?_eq_some_iff_getElem.mp hj
        have fl : ∀ {i : Nat} {d : D}, xs[i]? = some d → flatD d = true := fun {i d} h => List.all_eq_true.mp hf.2 d (List.mem_of_getElem? h)
        rcases RVs.get2 h2 j with ⟨z, d, e1, e2, rz⟩ | ⟨_, e2⟩
        · refine ⟨a, ys, y, j, z, rfl, rfl, h1, flatD_ok ry hf.1, flatDs_ok h2 hf.2, e1, ?_, fun m z' hm hz' => ?_, q _ F H (Grow.refl sm) (.int _)⟩
          · rw [eqD_ok rz ry (fl e2) hf.1]
            rw [List.getElem?_eq_getElem hlt] at e2
            cases e2
            exact h3
          · rcases RVs.get2 h2 m with ⟨z2, d2, f1, f2, rz2⟩ | ⟨f1, _⟩
            · rw [hz'] at f1
              cases f1
              rw [eqD_ok rz2 ry (fl f2) hf.1]
              rw [List.getElem?_eq_getElem (Nat.lt_trans hm hlt)] at f2
              cases f2
              simpa using h4 m hm
            · rw [hz'] at f1; cases f1
        · rw [List.getElem?_eq_getElem hlt] at e2; cases e2
      · cases e
    · cases e
  · cases e
section
variable {X : Cx} {c : Ct} {o e : Expr} {f g : Mn A} {apos cpos : Pos}
theorem he_index (hK : c.K = X.K) (h : PE X o (T c f)) (ha : PE X e (T c g)) (hse : starEach (e :: []) X.env = (false, eval e X.env) :: starEach [] X.env := by rfl) (hbase : attributeBase o "index" X.env (eval o X.env) = eval o X.env := by rfl)
    (hfew : ((backTo cpos (starEach (e :: []) X.env)).all (fun x => !x.1) && (backToKw cpos (keywordEach [] X.env)).all (fun x => x.1.isSome) && decide ((e :: []).length + ([] : List Keyword).length + (if ([] : List Keyword).isEmpty then 0 else 1) < 30)) = true := by rfl)
    (hline : (apos.endLine == cpos.line) = true := by rfl) : PE X (.Call (.Attribute o "index" apos) [e] [] cpos) (T c (methN kLst oIdx f [g])) :=
  PE.mono (pe_bm PySem.F.plainAttrs_list PySem.F.slot_list_index PySem.F.type_list_index mt_index h (ha_cons ha ha_nil hse) hbase hfew hline hse rfl) fun σ H Q q => hK ▸ t_methN kLst_ok oIdx_ok σ H Q q
end
end FR

namespace FR
open PySem PySem.Spec L2
/-! ### plain facts -/
theorem mulOk_of {i j : Int} (h1 : i.natAbs < 2 ^ 400000) (h2 : j.natAbs < 2 ^ 400000) : mulOk i j = true := by
  unfold mulOk
  rw [decide_eq_true_eq]
  have key : ∀ n : Nat, n < 2 ^ 400000 → n.log2 < 400000 := fun n h => by
    rcases Nat.eq_zero_or_pos n with z | z
    · subst z; rw [Nat.log2_zero]; omega
    · exact (Nat.log2_lt (by omega)).mpr h
  have := key _ h1
  have := key _ h2
  omega
theorem mulOk_small {i j : Int} (h1 : -(10 ^ 30) ≤ i ∧ i ≤ 10 ^ 30) (h2 : -(10 ^ 30) ≤ j ∧ j ≤ 10 ^ 30) : mulOk i j = true := by
  have e : (10 : Nat) ^ 30 < 2 ^ 400000 := Nat.lt_of_lt_of_le (show (10 : Nat) ^ 30 < 2 ^ 100 by decide) (Nat.pow_le_pow_right (by decide) (by decide))
  refine mulOk_of (Nat.lt_of_le_of_lt ?_ e) (Nat.lt_of_le_of_lt ?_ e) <;> omega
theorem divOk_small {j : Int} (h0 : j ≠ 0) (h : -(10 ^ 30) ≤ j ∧ j ≤ 10 ^ 30) : divOk j = true := by
  unfold divOk
  have e : (10 : Nat) ^ 30 < 2 ^ 9000 := Nat.lt_of_lt_of_le (show (10 : Nat) ^ 30 < 2 ^ 100 by decide) (Nat.pow_le_pow_right (by decide) (by decide))
  rw [Bool.and_eq_true, decide_eq_true_eq, decide_eq_true_eq]
  refine ⟨h0, ?_⟩
  exact (Nat.log2_lt (by omega)).mpr (by have : j.natAbs ≤ 10 ^ 30 := by omega
                                         omega)
/-- the mirror runs from S and what comes out satisfies Q -/
def Run {α : Type} (f : Mn α) (S : Sl) (Q : α → Sl → Prop) : Prop := ∃ a S', f S = .ok a S' ∧ Q a S'
end FR

namespace FR
open PySem PySem.Spec L2
/-! ### what a mirror does, by weakest preconditions -/
@[irreducible] def wp {α : Type} (f : Mn α) (S : Sl) (Q : α → Sl → Prop) : Prop := match f S with
  | .ok a S' => Q a S'
  | _ => False
section
variable {α β : Type} {S : Sl}
theorem wp_mono {f : Mn α} {Q Q' : α → Sl → Prop} (h : wp f S Q) (m : ∀ a S', Q a S' → Q' a S') : wp f S Q' := by
  unfold wp at *
  split at h
  · exact m _ _ h
  · exact h.elim
theorem wp_ok {f : Mn α} {Q : α → Sl → Prop} (h : wp f S Q) : ∃ a S', f S = .ok a S' ∧ Q a S' := by
  unfold wp at h
  split at h
  · rename_i a S' e; exact ⟨a, S', e, h⟩
  · exact h.elim
theorem wp_of {f : Mn α} {Q : α → Sl → Prop} {a : α} {S' : Sl} (e : f S = .ok a S') (h : Q a S') : wp f S Q := by unfold wp; rw [e]; exact h
def bK (g : α → Mn β) (Q : β → Sl → Prop) (a : α) (S : Sl) : Prop := wp (g a) S Q
theorem wp_bnd (f : Mn α) (g : α → Mn β) (Q : β → Sl → Prop) : wp (bnd f g) S Q = wp f S (bK g Q) := by
  unfold wp bnd bK wp
  cases f S <;> with_unfolding_all rfl
theorem bK_eq (g : α → Mn β) (Q : β → Sl → Prop) (a : α) : bK g Q a S = wp (g a) S Q := by with_unfolding_all rfl
theorem wp_ret (a : α) (Q : α → Sl → Prop) : wp (FR.ret a) S Q = Q a S := by with_unfolding_all rfl
/-! reading a slot -/
def aK (Q : A → Sl → Prop) (i : Nat) (S : Sl) : Option (Option O) → Prop
  | some (some _) => Q (.sl i) S
  | _ => False
theorem wp_nm (i : Nat) (Q : A → Sl → Prop) : wp (nm i) S Q = aK Q i S S[i]? := by
  unfold wp nm aK
  cases e : S[i]? with
  | none => simp [e]
  | some z => cases z <;> simp [e]
theorem aK_some (Q : A → Sl → Prop) (i : Nat) (r : O) : aK Q i S (some (some r)) = Q (.sl i) S := by with_unfolding_all rfl
theorem wp_kd (x : D) (Q : A → Sl → Prop) : wp (kd x) S Q = Q (.v (.d x)) S := by with_unfolding_all rfl
/-! what an operation answers -/
def lK (Q : A → Sl → Prop) (S : Sl) : Option O → Prop
  | some x => Q (.v x) S
  | none => False
theorem lK_some (Q : A → Sl → Prop) (x : O) : lK Q S (some x) = Q (.v x) S := by with_unfolding_all rfl
theorem lK_none (Q : A → Sl → Prop) : lK Q S none = False := by with_unfolding_all rfl
theorem lK_ite (Q : A → Sl → Prop) (c : Prop) [Decidable c] (x y : Option O) : lK Q S (if c then x else y) ↔ (c → lK Q S x) ∧ (¬ c → lK Q S y) := by
  by_cases h : c <;> simp [h]
theorem lK_iteN (Q : A → Sl → Prop) (c : Prop) [Decidable c] (x : O) : lK Q S (if c then some x else none) ↔ c ∧ Q (.v x) S := by
  by_cases h : c
  · simp [h, lK]
  · simp [h, lK]
theorem wp_lift (r : Option O) (Q : A → Sl → Prop) : wp (lift r) S Q = lK Q S r := by
  cases r <;> with_unfolding_all rfl
theorem view_sl (i : Nat) : view (.sl i) S = (S[i]?).join := by with_unfolding_all rfl
theorem view_v (r : O) : view (.v r) S = some r := by with_unfolding_all rfl
theorem join_some {α : Type} (x : Option α) : (some x).join = x := by with_unfolding_all rfl
theorem bind_some {α β : Type} (x : α) (g : α → Option β) : (some x).bind g = g x := by with_unfolding_all rfl
theorem bind_none {α β : Type} (g : α → Option β) : (none : Option α).bind g = none := by with_unfolding_all rfl
theorem omap_some {α β : Type} (x : α) (g : α → β) : (some x).map g = some (g x) := by with_unfolding_all rfl
def o1 (k : O → Option O) (Q : A → Sl → Prop) (a : A) (S : Sl) : Prop := lK Q S ((view a S).bind k)
theorem wp_op1 (k : O → Option O) (f : Mn A) (Q : A → Sl → Prop) : wp (op1 k f) S Q = wp f S (o1 k Q) := by
  unfold op1
  rw [wp_bnd]
  refine congrArg _ (funext fun a => funext fun S' => ?_)
  rw [bK_eq]
  with_unfolding_all exact wp_lift _ _
theorem o1_eq (k : O → Option O) (Q : A → Sl → Prop) (a : A) : o1 k Q a S = lK Q S ((view a S).bind k) := by with_unfolding_all rfl
def vb (x y : Option O) (k : O → O → Option O) : Option O := x.bind fun x => y.bind (k x)
theorem vb_some (x y : O) (k : O → O → Option O) : vb (some x) (some y) k = k x y := by with_unfolding_all rfl
def o2b (k : O → O → Option O) (a : A) (Q : A → Sl → Prop) (b : A) (S : Sl) : Prop := lK Q S (vb (view a S) (view b S) k)
def o2a (k : O → O → Option O) (h : Mn A) (Q : A → Sl → Prop) (a : A) (S : Sl) : Prop := wp h S (o2b k a Q)
theorem wp_op2 (k : O → O → Option O) (f h : Mn A) (Q : A → Sl → Prop) : wp (op2 k f h) S Q = wp f S (o2a k h Q) := by
  unfold op2
  rw [wp_bnd]
  refine congrArg _ (funext fun a => funext fun S' => ?_)
  rw [bK_eq, wp_bnd]
  refine congrArg _ (funext fun b => funext fun S' => ?_)
  rw [bK_eq]
  with_unfolding_all exact wp_lift _ _
theorem o2a_eq (k : O → O → Option O) (h : Mn A) (Q : A → Sl → Prop) (a : A) : o2a k h Q a S = wp h S (o2b k a Q) := by with_unfolding_all rfl
theorem o2b_eq (k : O → O → Option O) (a b : A) (Q : A → Sl → Prop) : o2b k a Q b S = lK Q S (vb (view a S) (view b S) k) := by with_unfolding_all rfl
/-! argument lists -/
def eK (a : A) (Q : List A → Sl → Prop) (as : List A) (S : Sl) : Prop := Q (a :: as) S
def eN (fs : List (Mn A)) (Q : List A → Sl → Prop) (a : A) (S : Sl) : Prop := wp (evs fs) S (eK a Q)
theorem wp_evs0 (Q : List A → Sl → Prop) : wp (evs []) S Q = Q [] S := by with_unfolding_all rfl
theorem wp_evs (f : Mn A) (fs : List (Mn A)) (Q : List A → Sl → Prop) : wp (evs (f :: fs)) S Q = wp f S (eN fs Q) := by
  unfold evs
  rw [wp_bnd]
  refine congrArg _ (funext fun a => funext fun S' => ?_)
  rw [bK_eq, wp_bnd]
  with_unfolding_all rfl
theorem eN_eq (fs : List (Mn A)) (Q : List A → Sl → Prop) (a : A) : eN fs Q a S = wp (evs fs) S (eK a Q) := by with_unfolding_all rfl
theorem eK_eq (a : A) (Q : List A → Sl → Prop) (as : List A) : eK a Q as S = Q (a :: as) S := by with_unfolding_all rfl
theorem views0 : views [] S = some [] := by with_unfolding_all rfl
theorem views1 (a : A) (as : List A) : views (a :: as) S = (view a S).bind fun x => (views as S).map (x :: ·) := by with_unfolding_all rfl
def cN (g : List O → Option O) (Q : A → Sl → Prop) (as : List A) (S : Sl) : Prop := lK Q S ((views as S).bind g)
theorem wp_callN (g : List O → Option O) (fs : List (Mn A)) (Q : A → Sl → Prop) : wp (callN g fs) S Q = wp (evs fs) S (cN g Q) := by
  unfold callN
  rw [wp_bnd]
  refine congrArg _ (funext fun a => funext fun S' => ?_)
  rw [bK_eq]
  with_unfolding_all exact wp_lift _ _
theorem cN_eq (g : List O → Option O) (Q : A → Sl → Prop) (as : List A) : cN g Q as S = lK Q S ((views as S).bind g) := by with_unfolding_all rfl
theorem b1_eq (g : O → Option O) (x : O) : b1 g [x] = g x := by with_unfolding_all rfl
theorem b2_eq (g : O → O → Option O) (x y : O) : b2 g [x, y] = g x y := by with_unfolding_all rfl
/-! freezing -/
def dK (Q : D → Sl → Prop) (i : Nat) (S : Sl) : Option (Option O) → Prop
  | some (some (.d x)) => Q x S
  | some (some (.own k)) => Q (fz k) (S.set i (some (.d (fz k))))
  | _ => False
theorem wp_toDd (x : D) (Q : D → Sl → Prop) : wp (toD (.v (.d x))) S Q = Q x S := by with_unfolding_all rfl
theorem wp_toDo (k : C) (Q : D → Sl → Prop) : wp (toD (.v (.own k))) S Q = Q (fz k) S := by with_unfolding_all rfl
theorem wp_toDs (i : Nat) (Q : D → Sl → Prop) : wp (toD (.sl i)) S Q = dK Q i S S[i]? := by
  unfold wp toD dK
  cases e : S[i]? with
  | none => simp [e]
  | some z =>
    cases z with
    | none => simp [e]
    | some r => cases r <;> simp [e]
theorem dK_d (Q : D → Sl → Prop) (i : Nat) (x : D) : dK Q i S (some (some (.d x))) = Q x S := by with_unfolding_all rfl
theorem dK_o (Q : D → Sl → Prop) (i : Nat) (k : C) : dK Q i S (some (some (.own k))) = Q (fz k) (S.set i (some (.d (fz k)))) := by with_unfolding_all rfl
theorem fz_l (xs : List D) : fz (.lst xs) = .lst xs := by with_unfolding_all rfl
theorem fz_k (xs : List (Key × D)) : fz (.dk xs) = .dk xs := by with_unfolding_all rfl
theorem fz_t (xs : List (List Key × D)) : fz (.dt xs) = .dt xs := by with_unfolding_all rfl
def fK (d : D) (Q : List D → Sl → Prop) (ds : List D) (S : Sl) : Prop := Q (d :: ds) S
def fN (as : List A) (Q : List D → Sl → Prop) (d : D) (S : Sl) : Prop := wp (frzs as) S (fK d Q)
theorem wp_frzs0 (Q : List D → Sl → Prop) : wp (frzs []) S Q = Q [] S := by with_unfolding_all rfl
theorem wp_frzs (a : A) (as : List A) (Q : List D → Sl → Prop) : wp (frzs (a :: as)) S Q = wp (toD a) S (fN as Q) := by
  unfold frzs
  rw [wp_bnd]
  refine congrArg _ (funext fun a => funext fun S' => ?_)
  rw [bK_eq, wp_bnd]
  with_unfolding_all rfl
theorem fN_eq (as : List A) (Q : List D → Sl → Prop) (d : D) : fN as Q d S = wp (frzs as) S (fK d Q) := by with_unfolding_all rfl
theorem fK_eq (d : D) (Q : List D → Sl → Prop) (ds : List D) : fK d Q ds S = Q (d :: ds) S := by with_unfolding_all rfl
def tK (Q : A → Sl → Prop) (ds : List D) (S : Sl) : Prop := Q (.v (.d (.tup ds))) S
def tN (Q : A → Sl → Prop) (as : List A) (S : Sl) : Prop := wp (frzs as) S (tK Q)
theorem wp_mkT (fs : List (Mn A)) (Q : A → Sl → Prop) : wp (mkT fs) S Q = wp (evs fs) S (tN Q) := by
  unfold mkT
  rw [wp_bnd]
  refine congrArg _ (funext fun a => funext fun S' => ?_)
  rw [bK_eq, wp_bnd]
  with_unfolding_all rfl
theorem tN_eq (Q : A → Sl → Prop) (as : List A) : tN Q as S = wp (frzs as) S (tK Q) := by with_unfolding_all rfl
theorem tK_eq (Q : A → Sl → Prop) (ds : List D) : tK Q ds S = Q (.v (.d (.tup ds))) S := by with_unfolding_all rfl
def mK (Q : A → Sl → Prop) (ds : List D) (S : Sl) : Prop := Q (.v (.own (.lst ds))) S
def mN (Q : A → Sl → Prop) (as : List A) (S : Sl) : Prop := wp (frzs as) S (mK Q)
theorem wp_mkL (fs : List (Mn A)) (Q : A → Sl → Prop) : wp (mkL fs) S Q = wp (evs fs) S (mN Q) := by
  unfold mkL
  rw [wp_bnd]
  refine congrArg _ (funext fun a => funext fun S' => ?_)
  rw [bK_eq, wp_bnd]
  with_unfolding_all rfl
theorem mN_eq (Q : A → Sl → Prop) (as : List A) : mN Q as S = wp (frzs as) S (mK Q) := by with_unfolding_all rfl
theorem mK_eq (Q : A → Sl → Prop) (ds : List D) : mK Q ds S = Q (.v (.own (.lst ds))) S := by with_unfolding_all rfl
theorem wp_newK (Q : A → Sl → Prop) : wp newK S Q = Q (.v (.own (.dk []))) S := by with_unfolding_all rfl
theorem wp_newT (Q : A → Sl → Prop) : wp newT S Q = Q (.v (.own (.dt []))) S := by with_unfolding_all rfl
/-! tests -/
def tS1 (Q : Bool → Sl → Prop) (S : Sl) : Option Bool → Prop
  | some b => Q b S
  | none => False
theorem tS1_some (Q : Bool → Sl → Prop) (b : Bool) : tS1 Q S (some b) = Q b S := by with_unfolding_all rfl
theorem wp_liftB (r : Option Bool) (Q : Bool → Sl → Prop) : wp (liftB r) S Q = tS1 Q S r := by cases r <;> with_unfolding_all rfl
def sbK (Q : Bool → Sl → Prop) (a : A) (S : Sl) : Prop := tS1 Q S ((view a S).bind isB)
theorem wp_tsb (f : Mn A) (Q : Bool → Sl → Prop) : wp (tsb f) S Q = wp f S (sbK Q) := by
  unfold tsb
  rw [wp_bnd]
  refine congrArg _ (funext fun a => funext fun S' => ?_)
  rw [bK_eq]
  with_unfolding_all exact wp_liftB _ _
theorem sbK_eq (Q : Bool → Sl → Prop) (a : A) : sbK Q a S = tS1 Q S ((view a S).bind isB) := by with_unfolding_all rfl
def stK (Q : Bool → Sl → Prop) (a : A) (S : Sl) : Prop := tS1 Q S ((view a S).bind tru)
theorem wp_tst (f : Mn A) (Q : Bool → Sl → Prop) : wp (tst f) S Q = wp f S (stK Q) := by
  unfold tst
  rw [wp_bnd]
  refine congrArg _ (funext fun a => funext fun S' => ?_)
  rw [bK_eq]
  with_unfolding_all exact wp_liftB _ _
theorem stK_eq (Q : Bool → Sl → Prop) (a : A) : stK Q a S = tS1 Q S ((view a S).bind tru) := by with_unfolding_all rfl
theorem isB_bl (b : Bool) : isB (.d (.bl b)) = some b := by with_unfolding_all rfl
/-- by a test's answer -/
def cnd (P P' : Sl → Prop) (b : Bool) (S : Sl) : Prop := bif b then P S else P' S
theorem cnd_t (P P' : Sl → Prop) : cnd P P' true S = P S := by with_unfolding_all rfl
theorem cnd_f (P P' : Sl → Prop) : cnd P P' false S = P' S := by with_unfolding_all rfl
theorem cnd_eq (P P' : Sl → Prop) (b : Bool) : cnd P P' b S ↔ (b = true → P S) ∧ (b = false → P' S) := by cases b <;> simp [cnd]
def wpS (f : Mn α) (Q : α → Sl → Prop) (S : Sl) : Prop := wp f S Q
theorem wpS_eq (f : Mn α) (Q : α → Sl → Prop) : wpS f Q S = wp f S Q := by with_unfolding_all rfl
theorem wp_andB (p q : Mn Bool) (Q : Bool → Sl → Prop) : wp (andB p q) S Q = wp p S (cnd (wpS q Q) (Q false)) := by
  unfold andB
  rw [wp_bnd]
  refine congrArg _ (funext fun a => funext fun S' => ?_)
  cases a <;> with_unfolding_all rfl
theorem wp_orB (p q : Mn Bool) (Q : Bool → Sl → Prop) : wp (orB p q) S Q = wp p S (cnd (Q true) (wpS q Q)) := by
  unfold orB
  rw [wp_bnd]
  refine congrArg _ (funext fun a => funext fun S' => ?_)
  cases a <;> with_unfolding_all rfl
def nB (Q : Bool → Sl → Prop) (b : Bool) (S : Sl) : Prop := Q (!b) S
theorem nB_eq (Q : Bool → Sl → Prop) (b : Bool) : nB Q b S = Q (!b) S := by with_unfolding_all rfl
theorem wp_notB (p : Mn Bool) (Q : Bool → Sl → Prop) : wp (notB p) S Q = wp p S (nB Q) := by
  unfold notB
  rw [wp_bnd]
  with_unfolding_all rfl
theorem wp_yesB (Q : Bool → Sl → Prop) : wp yesB S Q = Q true S := by with_unfolding_all rfl
theorem wp_ifE (p : Mn Bool) (f g : Mn A) (Q : A → Sl → Prop) : wp (ifE p f g) S Q = wp p S (cnd (wpS f Q) (wpS g Q)) := by
  unfold ifE
  rw [wp_bnd]
  refine congrArg _ (funext fun a => funext fun S' => ?_)
  cases a <;> with_unfolding_all rfl
def vT (f g : Mn A) (Q : A → Sl → Prop) (S : Sl) : Option Bool → Prop
  | some b => cnd (wpS f Q) (wpS g Q) b S
  | none => False
theorem vT_some (f g : Mn A) (Q : A → Sl → Prop) (b : Bool) : vT f g Q S (some b) = cnd (wpS f Q) (wpS g Q) b S := by with_unfolding_all rfl
theorem wp_ifT (r : Option Bool) (f g : Mn A) (Q : A → Sl → Prop) : wp (ifT r f g) S Q = vT f g Q S r := by
  cases r with
  | none => with_unfolding_all rfl
  | some b => cases b <;> with_unfolding_all rfl
def vA (g : Mn A) (Q : A → Sl → Prop) (a : A) (S : Sl) : Prop := vT g (kd (.bl false)) Q S ((view a S).bind isB)
def vO (g : Mn A) (Q : A → Sl → Prop) (a : A) (S : Sl) : Prop := vT (kd (.bl true)) g Q S ((view a S).bind isB)
theorem wp_andV (f g : Mn A) (Q : A → Sl → Prop) : wp (andV f g) S Q = wp f S (vA g Q) := by
  unfold andV
  rw [wp_bnd]
  refine congrArg _ (funext fun a => funext fun S' => ?_)
  rw [bK_eq]
  with_unfolding_all exact wp_ifT _ _ _ _
theorem wp_orV (f g : Mn A) (Q : A → Sl → Prop) : wp (orV f g) S Q = wp f S (vO g Q) := by
  unfold orV
  rw [wp_bnd]
  refine congrArg _ (funext fun a => funext fun S' => ?_)
  rw [bK_eq]
  with_unfolding_all exact wp_ifT _ _ _ _
theorem vA_eq (g : Mn A) (Q : A → Sl → Prop) (a : A) : vA g Q a S = vT g (kd (.bl false)) Q S ((view a S).bind isB) := by with_unfolding_all rfl
theorem vO_eq (g : Mn A) (Q : A → Sl → Prop) (a : A) : vO g Q a S = vT (kd (.bl true)) g Q S ((view a S).bind isB) := by with_unfolding_all rfl
/-! statements -/
def sq (g : Mn Out) (Q : Out → Sl → Prop) (o : Out) (S : Sl) : Prop := match o with
  | .nx => wp g S Q
  | o => Q o S
theorem wp_seqS (f g : Mn Out) (Q : Out → Sl → Prop) : wp (seqS f g) S Q = wp f S (sq g Q) := by
  unfold seqS
  rw [wp_bnd]
  refine congrArg _ (funext fun a => funext fun S' => ?_)
  cases a <;> with_unfolding_all rfl
theorem sq_nx (g : Mn Out) (Q : Out → Sl → Prop) : sq g Q .nx S = wp g S Q := by with_unfolding_all rfl
theorem sq_rt (g : Mn Out) (Q : Out → Sl → Prop) (r : O) : sq g Q (.rt r) S = Q (.rt r) S := by with_unfolding_all rfl
theorem sq_bk (g : Mn Out) (Q : Out → Sl → Prop) : sq g Q .bk S = Q .bk S := by with_unfolding_all rfl
theorem sq_ct (g : Mn Out) (Q : Out → Sl → Prop) : sq g Q .ct S = Q .ct S := by with_unfolding_all rfl
theorem wp_nilS (Q : Out → Sl → Prop) : wp nilS S Q = Q .nx S := by with_unfolding_all rfl
theorem wp_retN (Q : Out → Sl → Prop) : wp retN S Q = Q (.rt (.d .non)) S := by with_unfolding_all rfl
def xS (Q : Out → Sl → Prop) (_ : A) (S : Sl) : Prop := Q .nx S
theorem wp_exprS (f : Mn A) (Q : Out → Sl → Prop) : wp (exprS f) S Q = wp f S (xS Q) := by
  unfold exprS
  rw [wp_bnd]
  with_unfolding_all rfl
theorem xS_eq (Q : Out → Sl → Prop) (a : A) : xS Q a S = Q .nx S := by with_unfolding_all rfl
def rtK (np i : Nat) (Q : Out → Sl → Prop) (S : Sl) : Option (Option O) → Prop
  | some (some (.d x)) => Q (.rt (.d x)) S
  | some (some (.own k)) => cnd (fun S => Q (.rt (.d (fz k))) (S.set i (some (.d (fz k))))) (fun S => Q (.rt (.own k)) (S.set i none)) (decide (i < np)) S
  | _ => False
def rt1 (np : Nat) (Q : Out → Sl → Prop) (a : A) (S : Sl) : Prop := match a with
  | .v r => Q (.rt r) S
  | .sl i => rtK np i Q S S[i]?
theorem wp_retS (np : Nat) (f : Mn A) (Q : Out → Sl → Prop) : wp (retS np f) S Q = wp f S (rt1 np Q) := by
  unfold retS
  rw [wp_bnd]
  refine congrArg _ (funext fun a => funext fun S' => ?_)
  rw [bK_eq]
  cases a with
  | v r => with_unfolding_all rfl
  | sl i =>
    unfold wp retA rt1 rtK
    simp only
    cases e : S'[i]? with
    | none => simp [e]
    | some z =>
      cases z with
      | none => simp [e]
      | some r =>
        cases r with
        | d x => simp [e]
        | own k => by_cases h : i < np <;> simp [e, h, cnd]
theorem rt1_v (np : Nat) (Q : Out → Sl → Prop) (r : O) : rt1 np Q (.v r) S = Q (.rt r) S := by with_unfolding_all rfl
theorem rt1_s (np : Nat) (Q : Out → Sl → Prop) (i : Nat) : rt1 np Q (.sl i) S = rtK np i Q S S[i]? := by with_unfolding_all rfl
theorem rtK_d (np i : Nat) (Q : Out → Sl → Prop) (x : D) : rtK np i Q S (some (some (.d x))) = Q (.rt (.d x)) S := by with_unfolding_all rfl
theorem rtK_o (np i : Nat) (Q : Out → Sl → Prop) (k : C) : rtK np i Q S (some (some (.own k))) = if i < np then Q (.rt (.d (fz k))) (S.set i (some (.d (fz k)))) else Q (.rt (.own k)) (S.set i none) := by
  unfold rtK cnd
  by_cases h : i < np <;> simp [h]
theorem wp_ifS (p : Mn Bool) (f g : Mn Out) (Q : Out → Sl → Prop) : wp (ifS p f g) S Q = wp p S (cnd (wpS f Q) (wpS g Q)) := by
  unfold ifS
  rw [wp_bnd]
  refine congrArg _ (funext fun a => funext fun S' => ?_)
  cases a <;> with_unfolding_all rfl
/-! targets, assignments -/
theorem wp_gN (i : Nat) (r : O) (Q : Unit → Sl → Prop) : wp (gN i r) S Q = Q () (S.set i (some r)) := by with_unfolding_all rfl
def vK (Q : A → Sl → Prop) (i : Nat) (S : Sl) : Option (Option O) → Prop
  | some (some (.d x)) => Q (.v (.d x)) S
  | some (some (.own k)) => Q (.v (.d (fz k))) (S.set i (some (.d (fz k))))
  | _ => False
def vl1 (Q : A → Sl → Prop) (a : A) (S : Sl) : Prop := match a with
  | .v r => Q (.v r) S
  | .sl i => vK Q i S S[i]?
theorem wp_vl (f : Mn A) (Q : A → Sl → Prop) : wp (vl f) S Q = wp f S (vl1 Q) := by
  unfold vl
  rw [wp_bnd]
  refine congrArg _ (funext fun a => funext fun S' => ?_)
  rw [bK_eq]
  cases a with
  | v r => with_unfolding_all rfl
  | sl i =>
    unfold wp toV vl1 vK
    simp only
    cases e : S'[i]? with
    | none => simp [e]
    | some z =>
      cases z with
      | none => simp [e]
      | some r => cases r <;> simp [e]
theorem vl1_v (Q : A → Sl → Prop) (r : O) : vl1 Q (.v r) S = Q (.v r) S := by with_unfolding_all rfl
theorem vl1_s (Q : A → Sl → Prop) (i : Nat) : vl1 Q (.sl i) S = vK Q i S S[i]? := by with_unfolding_all rfl
theorem vK_d (Q : A → Sl → Prop) (i : Nat) (x : D) : vK Q i S (some (some (.d x))) = Q (.v (.d x)) S := by with_unfolding_all rfl
theorem vK_o (Q : A → Sl → Prop) (i : Nat) (k : C) : vK Q i S (some (some (.own k))) = Q (.v (.d (fz k))) (S.set i (some (.d (fz k)))) := by with_unfolding_all rfl
def uN (Q : Out → Sl → Prop) (_ : Unit) (S : Sl) : Prop := Q .nx S
theorem uN_eq (Q : Out → Sl → Prop) (u : Unit) : uN Q u S = Q .nx S := by with_unfolding_all rfl
def agK (g : O → Mn Unit) (Q : Out → Sl → Prop) (a : A) (S : Sl) : Prop := match a with
  | .v r => wp (g r) S (uN Q)
  | .sl _ => False
theorem wp_asgS (g : O → Mn Unit) (f : Mn A) (Q : Out → Sl → Prop) : wp (asgS g f) S Q = wp f S (vl1 (agK g Q)) := by
  unfold asgS
  rw [wp_bnd, wp_vl]
  refine congrArg _ (congrArg _ (funext fun a => funext fun S' => ?_))
  cases a with
  | v r => show wp (bnd (g r) _) S' Q = _; rw [wp_bnd]; with_unfolding_all rfl
  | sl i => with_unfolding_all rfl
theorem agK_eq (g : O → Mn Unit) (Q : Out → Sl → Prop) (r : O) : agK g Q (.v r) S = wp (g r) S (uN Q) := by with_unfolding_all rfl
def gTK (n : Nat) (g : List D → Mn Unit) (Q : Unit → Sl → Prop) (S : Sl) : Option (List D) → Prop
  | some ds => ds.length = n ∧ wp (g ds) S Q
  | none => False
theorem wp_gT (n : Nat) (g : List D → Mn Unit) (r : O) (Q : Unit → Sl → Prop) : wp (gT n g r) S Q = gTK n g Q S (oLT r) := by
  unfold wp gT gTK
  cases e : oLT r with
  | none => simp [e]
  | some ds => by_cases h : ds.length = n <;> simp [e, h, wp]
theorem gTK_some (n : Nat) (g : List D → Mn Unit) (Q : Unit → Sl → Prop) (ds : List D) : gTK n g Q S (some ds) = (ds.length = n ∧ wp (g ds) S Q) := by with_unfolding_all rfl
def gsK (h : List D → Mn Unit) (xs : List D) (Q : Unit → Sl → Prop) (_ : Unit) (S : Sl) : Prop := wp (h xs) S Q
theorem wp_gsC (g : O → Mn Unit) (h : List D → Mn Unit) (x : D) (xs : List D) (Q : Unit → Sl → Prop) : wp (gsC g h (x :: xs)) S Q = wp (g (.d x)) S (gsK h xs Q) := by
  show wp (bnd _ _) S Q = _
  rw [wp_bnd]
  with_unfolding_all rfl
theorem gsK_eq (h : List D → Mn Unit) (xs : List D) (Q : Unit → Sl → Prop) (u : Unit) : gsK h xs Q u S = wp (h xs) S Q := by with_unfolding_all rfl
theorem wp_gsN (Q : Unit → Sl → Prop) : wp (gsN []) S Q = Q () S := by with_unfolding_all rfl
/-! stores -/
def sxB (i : Nat) (d : D) (Q : Out → Sl → Prop) (b : A) (S : Sl) : Prop := match view b S with
  | some k => wp (putIx i k d) S (uN Q)
  | none => False
def sxA (i : Nat) (fk : Mn A) (Q : Out → Sl → Prop) (d : D) (S : Sl) : Prop := isOwn S[i]? = true ∧ wp fk S (sxB i d Q)
def sxV (i : Nat) (fk : Mn A) (Q : Out → Sl → Prop) (a : A) (S : Sl) : Prop := wp (toD a) S (sxA i fk Q)
theorem wp_setIx (i : Nat) (fk fv : Mn A) (Q : Out → Sl → Prop) : wp (setIx i fk fv) S Q = wp fv S (sxV i fk Q) := by
  unfold setIx
  rw [wp_bnd]
  refine congrArg _ (funext fun a => funext fun S1 => ?_)
  rw [bK_eq, wp_bnd]
  refine congrArg _ (funext fun d => funext fun S2 => ?_)
  rw [bK_eq, wp_bnd]
  unfold sxA
  have e : ∀ (R : Unit → Sl → Prop), wp (seen i) S2 R = (isOwn S2[i]? = true ∧ R () S2) := fun R => by
    unfold wp seen
    generalize isOwn S2[i]? = z
    cases z <;> simp
  rw [e]
  refine congrArg _ ?_
  rw [bK_eq, wp_bnd]
  refine congrArg _ (funext fun b => funext fun S3 => ?_)
  unfold bK sxB
  have e2 : ∀ z : Option O, wp (fun S => match z with | some k => bnd (putIx i k d) (fun _ => FR.ret Out.nx) S | none => Res.bad) S3 Q = match z with | some k => wp (putIx i k d) S3 (uN Q) | none => False := fun z => by
    cases z with
    | none => with_unfolding_all rfl
    | some k =>
      show wp (bnd (putIx i k d) (fun _ => FR.ret Out.nx)) S3 Q = _
      rw [wp_bnd]
      with_unfolding_all rfl
  with_unfolding_all exact e2 (view b S3)
theorem sxV_eq (i : Nat) (fk : Mn A) (Q : Out → Sl → Prop) (a : A) : sxV i fk Q a S = wp (toD a) S (sxA i fk Q) := by with_unfolding_all rfl
theorem sxA_eq (i : Nat) (fk : Mn A) (Q : Out → Sl → Prop) (d : D) : sxA i fk Q d S = (isOwn S[i]? = true ∧ wp fk S (sxB i d Q)) := by with_unfolding_all rfl
def sxK (i : Nat) (d : D) (Q : Out → Sl → Prop) (S : Sl) : Option O → Prop
  | some k => wp (putIx i k d) S (uN Q)
  | none => False
theorem sxB_eq (i : Nat) (d : D) (Q : Out → Sl → Prop) (b : A) : sxB i d Q b S = sxK i d Q S (view b S) := by
  unfold sxB sxK
  with_unfolding_all rfl
theorem sxK_some (i : Nat) (d : D) (Q : Out → Sl → Prop) (k : O) : sxK i d Q S (some k) = wp (putIx i k d) S (uN Q) := by with_unfolding_all rfl
theorem isOwn_d (x : D) : isOwn (some (some (.d x))) = false := by with_unfolding_all rfl
theorem isOwn_o (k : C) : isOwn (some (some (.own k))) = true := by with_unfolding_all rfl
/-- by what stands in the slot -/
def pxK (i : Nat) (k : O) (d : D) (Q : Unit → Sl → Prop) (S : Sl) : Option (Option O) → Prop
  | some (some (.own (.lst xs))) => match k with
    | .d (.int j) => ∃ n, ixN xs.length j = some n ∧ Q () (S.set i (some (.own (.lst (xs.set n d)))))
    | _ => False
  | some (some (.own (.dk xs))) => match k with
    | .d x => ∃ q, keyOf x = some q ∧ xs.length < lim ∧ Q () (S.set i (some (.own (.dk (putD xs q d)))))
    | _ => False
  | some (some (.own (.dt xs))) => match k with
    | .d x => ∃ q, tkeyOf x = some q ∧ xs.length < lim ∧ Q () (S.set i (some (.own (.dt (putD xs q d)))))
    | _ => False
  | _ => False
theorem wp_putK (i : Nat) (k : O) (d : D) (Q : Unit → Sl → Prop) : wp (putIx i k d) S Q = pxK i k d Q S S[i]? := by
  unfold wp putIx pxK
  generalize S[i]? = z
  rcases z with _ | _ | x | c
  · rfl
  · rfl
  · rfl
  · cases c with
    | lst xs =>
      cases k with
      | own _ => with_unfolding_all rfl
      | d y =>
        cases y with
        | int j => simp only; cases e1 : ixN xs.length j <;> simp
        | _ => with_unfolding_all rfl
    | dk xs =>
      cases k with
      | own _ => with_unfolding_all rfl
      | d y =>
        simp only
        cases e1 : keyOf y with
        | none => simp
        | some q => by_cases h : xs.length < lim <;> simp [h]
    | dt xs =>
      cases k with
      | own _ => with_unfolding_all rfl
      | d y =>
        simp only
        cases e1 : tkeyOf y with
        | none => simp
        | some q => by_cases h : xs.length < lim <;> simp [h]
def pxI (i : Nat) (xs : List D) (d : D) (Q : Unit → Sl → Prop) (S : Sl) : Option Nat → Prop
  | some n => Q () (S.set i (some (.own (.lst (xs.set n d)))))
  | none => False
theorem pxI_some (i : Nat) (xs : List D) (d : D) (Q : Unit → Sl → Prop) (n : Nat) : pxI i xs d Q S (some n) = Q () (S.set i (some (.own (.lst (xs.set n d))))) := by with_unfolding_all rfl
theorem pxK_l (i : Nat) (j : Int) (d : D) (Q : Unit → Sl → Prop) (xs : List D) : pxK i (.d (.int j)) d Q S (some (some (.own (.lst xs)))) = pxI i xs d Q S (ixN xs.length j) := by
  unfold pxK
  cases h : ixN xs.length j <;> simp [pxI, h]
theorem ixN_0 (n : Nat) : ixN (n + 1) 0 = some 0 := by
  unfold ixN
  rw [if_pos (by omega), if_pos (by omega)]; with_unfolding_all rfl
theorem ixN_1 (n : Nat) : ixN (n + 2) 1 = some 1 := by
  unfold ixN
  rw [if_pos (by omega), if_pos (by omega)]; with_unfolding_all rfl
theorem ixN_2 (n : Nat) : ixN (n + 3) 2 = some 2 := by
  unfold ixN
  rw [if_pos (by omega), if_pos (by omega)]; with_unfolding_all rfl
theorem ixN_3 (n : Nat) : ixN (n + 4) 3 = some 3 := by
  unfold ixN
  rw [if_pos (by omega), if_pos (by omega)]; with_unfolding_all rfl
theorem pxK_k (i : Nat) (x : D) (d : D) (Q : Unit → Sl → Prop) (xs : List (Key × D)) : pxK i (.d x) d Q S (some (some (.own (.dk xs)))) = ∃ q, keyOf x = some q ∧ xs.length < lim ∧ Q () (S.set i (some (.own (.dk (putD xs q d))))) := by with_unfolding_all rfl
theorem pxK_t (i : Nat) (x : D) (d : D) (Q : Unit → Sl → Prop) (xs : List (List Key × D)) : pxK i (.d x) d Q S (some (some (.own (.dt xs)))) = ∃ q, tkeyOf x = some q ∧ xs.length < lim ∧ Q () (S.set i (some (.own (.dt (putD xs q d))))) := by with_unfolding_all rfl
/-! append, pop -/
def apB (i : Nat) (d : D) (Q : A → Sl → Prop) (S : Sl) : Option (List D) → Prop
  | some xs => xs.length < lim ∧ Q (.v (.d .non)) (S.set i (some (.own (.lst (xs ++ [d])))))
  | none => False
def apA (i : Nat) (Q : A → Sl → Prop) (d : D) (S : Sl) : Prop := apB i d Q S (ownL S i)
def ap0 (i : Nat) (Q : A → Sl → Prop) (a : A) (S : Sl) : Prop := wp (toD a) S (apA i Q)
theorem wp_apnd (i : Nat) (f : Mn A) (Q : A → Sl → Prop) : wp (apnd i f) S Q = ((ownL S i).isSome = true ∧ wp f S (ap0 i Q)) := by
  cases e : ownL S i with
  | none =>
    have e2 : apnd i f S = .bad := by unfold apnd; rw [e]
    unfold wp
    rw [e2]
    simp
  | some xs =>
    have e2 : apnd i f S = bnd f (fun a => bnd (toD a) fun d S => match ownL S i with
      | some xs => if xs.length < lim then Res.ok (A.v (.d .non)) (S.set i (some (.own (.lst (xs ++ [d]))))) else .bad
      | none => .bad) S := by unfold apnd; rw [e] <;> with_unfolding_all rfl
    simp only [Option.isSome_some, true_and]
    have e3 : wp (apnd i f) S Q = wp (bnd f (fun a => bnd (toD a) fun d S => match ownL S i with
      | some xs => if xs.length < lim then Res.ok (A.v (.d .non)) (S.set i (some (.own (.lst (xs ++ [d]))))) else .bad
      | none => .bad)) S Q := by unfold wp; rw [e2]
    rw [e3, wp_bnd]
    refine congrArg _ (funext fun a => funext fun S1 => ?_)
    rw [bK_eq, wp_bnd]
    refine congrArg _ (funext fun d => funext fun S2 => ?_)
    unfold bK wp apA apB
    dsimp only
    cases e3 : ownL S2 i with
    | none => with_unfolding_all rfl
    | some ys => by_cases h : ys.length < lim <;> simp [h]
theorem ap0_eq (i : Nat) (Q : A → Sl → Prop) (a : A) : ap0 i Q a S = wp (toD a) S (apA i Q) := by with_unfolding_all rfl
theorem apA_eq (i : Nat) (Q : A → Sl → Prop) (d : D) : apA i Q d S = apB i d Q S (ownL S i) := by with_unfolding_all rfl
theorem apB_some (i : Nat) (d : D) (Q : A → Sl → Prop) (xs : List D) : apB i d Q S (some xs) = (xs.length < lim ∧ Q (.v (.d .non)) (S.set i (some (.own (.lst (xs ++ [d])))))) := by with_unfolding_all rfl
def owK : Option (Option O) → Option (List D)
  | some (some (.own (.lst xs))) => some xs
  | _ => none
theorem ownL_eq (i : Nat) : ownL S i = owK S[i]? := by
  unfold ownL owK
  with_unfolding_all rfl
theorem owK_some (xs : List D) : owK (some (some (.own (.lst xs)))) = some xs := by with_unfolding_all rfl
/-! x op= e -/
def agB (i : Nat) (k : O → O → Option O) (x : D) (Q : Out → Sl → Prop) (S : Sl) : Option O → Prop
  | some r => Q .nx (S.set i (some r))
  | none => False
def agA (i : Nat) (k : O → O → Option O) (x : D) (Q : Out → Sl → Prop) (a : A) (S : Sl) : Prop := agB i k x Q S ((view a S).bind (k (.d x)))
def ag0 (i : Nat) (k : O → O → Option O) (f : Mn A) (Q : Out → Sl → Prop) (S : Sl) : Option (Option O) → Prop
  | some (some (.d x)) => wp f S (agA i k x Q)
  | _ => False
theorem wp_augS (i : Nat) (k : O → O → Option O) (f : Mn A) (Q : Out → Sl → Prop) : wp (augS i k f) S Q = ag0 i k f Q S S[i]? := by
  have key : ∀ z : Option (Option O), z = S[i]? → wp (augS i k f) S Q = ag0 i k f Q S z := fun z hz => by
    rcases z with _ | _ | x | c
    · have e : augS i k f S = .bad := by unfold augS; rw [← hz]
      unfold wp; rw [e]; with_unfolding_all rfl
    · have e : augS i k f S = .bad := by unfold augS; rw [← hz]
      unfold wp; rw [e]; with_unfolding_all rfl
    · have e : augS i k f S = bnd f (fun a S => match (view a S).bind (k (.d x)) with
        | some r => .ok .nx (S.set i (some r))
        | none => .bad) S := by unfold augS; rw [← hz] <;> with_unfolding_all rfl
      have e3 : wp (augS i k f) S Q = wp (bnd f (fun a S => match (view a S).bind (k (.d x)) with
        | some r => .ok .nx (S.set i (some r))
        | none => .bad)) S Q := by unfold wp; rw [e]
      rw [e3, wp_bnd]
      refine congrArg _ (funext fun a => funext fun S1 => ?_)
      unfold bK wp agA agB
      dsimp only
      cases (view a S1).bind (k (.d x)) <;> with_unfolding_all rfl
    · have e : augS i k f S = .bad := by unfold augS; rw [← hz]
      unfold wp; rw [e]; with_unfolding_all rfl
  exact key _ rfl
theorem ag0_some (i : Nat) (k : O → O → Option O) (f : Mn A) (Q : Out → Sl → Prop) (x : D) : ag0 i k f Q S (some (some (.d x))) = wp f S (agA i k x Q) := by with_unfolding_all rfl
theorem agA_eq (i : Nat) (k : O → O → Option O) (x : D) (Q : Out → Sl → Prop) (a : A) : agA i k x Q a S = agB i k x Q S ((view a S).bind (k (.d x))) := by with_unfolding_all rfl
theorem agB_some (i : Nat) (k : O → O → Option O) (x : D) (Q : Out → Sl → Prop) (r : O) : agB i k x Q S (some r) = Q .nx (S.set i (some r)) := by with_unfolding_all rfl
/-! what is walked -/
def lD (Q : List D → Sl → Prop) (S : Sl) : Option (List D) → Prop
  | some ds => Q ds S
  | none => False
theorem wp_liftL (r : Option (List D)) (Q : List D → Sl → Prop) : wp (liftL r) S Q = lD Q S r := by cases r <;> with_unfolding_all rfl
theorem lD_some (Q : List D → Sl → Prop) (ds : List D) : lD Q S (some ds) = Q ds S := by with_unfolding_all rfl
theorem lD_ite (Q : List D → Sl → Prop) (c : Prop) [Decidable c] (ds : List D) : lD Q S (if c then some ds else none) ↔ c ∧ Q ds S := by by_cases h : c <;> simp [h, lD]
def srA (Q : List D → Sl → Prop) (d : D) (S : Sl) : Prop := lD Q S (seqD d)
def sr0 (Q : List D → Sl → Prop) (a : A) (S : Sl) : Prop := wp (toD a) S (srA Q)
theorem wp_srcS (f : Mn A) (Q : List D → Sl → Prop) : wp (srcS f) S Q = wp f S (sr0 Q) := by
  unfold srcS
  rw [wp_bnd]
  refine congrArg _ (funext fun a => funext fun S1 => ?_)
  rw [bK_eq, wp_bnd]
  refine congrArg _ (funext fun d => funext fun S2 => ?_)
  rw [bK_eq]
  with_unfolding_all exact wp_liftL _ _
theorem sr0_eq (Q : List D → Sl → Prop) (a : A) : sr0 Q a S = wp (toD a) S (srA Q) := by with_unfolding_all rfl
theorem srA_eq (Q : List D → Sl → Prop) (d : D) : srA Q d S = lD Q S (seqD d) := by with_unfolding_all rfl
def snA (k : List D → Option (List D)) (Q : List D → Sl → Prop) (ds : List D) (S : Sl) : Prop := lD Q S (k ds)
def sn0 (k : List D → Option (List D)) (Q : List D → Sl → Prop) (as : List A) (S : Sl) : Prop := wp (frzs as) S (snA k Q)
theorem wp_srcN (k : List D → Option (List D)) (fs : List (Mn A)) (Q : List D → Sl → Prop) : wp (srcN k fs) S Q = wp (evs fs) S (sn0 k Q) := by
  unfold srcN
  rw [wp_bnd]
  refine congrArg _ (funext fun a => funext fun S1 => ?_)
  rw [bK_eq, wp_bnd]
  refine congrArg _ (funext fun d => funext fun S2 => ?_)
  rw [bK_eq]
  with_unfolding_all exact wp_liftL _ _
theorem sn0_eq (k : List D → Option (List D)) (Q : List D → Sl → Prop) (as : List A) : sn0 k Q as S = wp (frzs as) S (snA k Q) := by with_unfolding_all rfl
theorem snA_eq (k : List D → Option (List D)) (Q : List D → Sl → Prop) (ds : List D) : snA k Q ds S = lD Q S (k ds) := by with_unfolding_all rfl
def rgA (g : List O → Option (List D)) (Q : List D → Sl → Prop) (as : List A) (S : Sl) : Prop := lD Q S ((views as S).bind g)
theorem wp_rangeS (g : List O → Option (List D)) (fs : List (Mn A)) (Q : List D → Sl → Prop) : wp (rangeS g fs) S Q = wp (evs fs) S (rgA g Q) := by
  unfold rangeS
  rw [wp_bnd]
  refine congrArg _ (funext fun a => funext fun S1 => ?_)
  rw [bK_eq]
  with_unfolding_all exact wp_liftL _ _
theorem rgA_eq (g : List O → Option (List D)) (Q : List D → Sl → Prop) (as : List A) : rgA g Q as S = lD Q S ((views as S).bind g) := by with_unfolding_all rfl
/-! loops -/
def fr0 (g : O → Mn Unit) (b : Mn Out) (Q : Out → Sl → Prop) (ds : List D) (S : Sl) : Prop := wp (forS g b ds) S Q
theorem wp_forA (s : Mn (List D)) (g : O → Mn Unit) (b : Mn Out) (Q : Out → Sl → Prop) : wp (forA s g b) S Q = wp s S (fr0 g b Q) := by
  unfold forA
  rw [wp_bnd]
  with_unfolding_all rfl
theorem fr0_eq (g : O → Mn Unit) (b : Mn Out) (Q : Out → Sl → Prop) (ds : List D) : fr0 g b Q ds S = wp (forS g b ds) S Q := by with_unfolding_all rfl
/-- behind a turn: J what then holds -/
def lpK (J : Sl → Prop) (Q : Out → Sl → Prop) (o : Out) (S : Sl) : Prop := match o with
  | .nx => J S
  | .ct => J S
  | .bk => Q .nx S
  | .rt r => Q (.rt r) S
theorem lpK_nx (J : Sl → Prop) (Q : Out → Sl → Prop) : lpK J Q .nx S = J S := by with_unfolding_all rfl
theorem lpK_ct (J : Sl → Prop) (Q : Out → Sl → Prop) : lpK J Q .ct S = J S := by with_unfolding_all rfl
theorem lpK_bk (J : Sl → Prop) (Q : Out → Sl → Prop) : lpK J Q .bk S = Q .nx S := by with_unfolding_all rfl
theorem lpK_rt (J : Sl → Prop) (Q : Out → Sl → Prop) (r : O) : lpK J Q (.rt r) S = Q (.rt r) S := by with_unfolding_all rfl
theorem lpK_bK (k : Mn Out) (Q : Out → Sl → Prop) (J : Sl → Prop) (h : ∀ S, J S → wp k S Q) {o : Out} {S : Sl} (q : lpK J Q o S) : wp (onOut k o) S Q := by
  cases o with
  | nx => exact h S q
  | ct => exact h S q
  | bk => with_unfolding_all exact q
  | rt r => with_unfolding_all exact q
def uB (b : Mn Out) (Q : Out → Sl → Prop) (_ : Unit) (S : Sl) : Prop := wp b S Q
theorem uB_eq (b : Mn Out) (Q : Out → Sl → Prop) (u : Unit) : uB b Q u S = wp b S Q := by with_unfolding_all rfl
theorem wp_for {g : O → Mn Unit} {b : Mn Out} {Q : Out → Sl → Prop} : ∀ {ds : List D} (J : List D → Sl → Prop) {S : Sl}, J ds S → (∀ d rest S, J (d :: rest) S → wp (g (.d d)) S (uB b (lpK (J rest) Q))) → (∀ S, J [] S → Q .nx S) → wp (forS g b ds) S Q
  | [], J, S, h0, hs, he => by with_unfolding_all exact he S h0
  | d :: ds, J, S, h0, hs, he => by
    unfold forS
    rw [wp_bnd]
    refine wp_mono (hs d ds S h0) fun u S1 h1 => ?_
    rw [bK_eq, wp_bnd]
    refine wp_mono h1 fun o S2 h2 => ?_
    rw [bK_eq]
    exact lpK_bK _ _ _ (fun S3 h3 => wp_for (ds := ds) J h3 hs he) h2
/-- a loop over laid-out data: J of what is behind -/
theorem wp_forE {α : Type} {enc : α → D} {as : List α} {g : O → Mn Unit} {b : Mn Out} {Q : Out → Sl → Prop} (J : List α → Sl → Prop) {S : Sl} (h0 : J [] S) (hs : ∀ pre a post, as = pre ++ a :: post → ∀ S, J pre S → wp (g (.d (enc a))) S (uB b (lpK (J (pre ++ [a])) Q))) (he : ∀ S, J as S → Q .nx S) : wp (forS g b (as.map enc)) S Q := by
  refine wp_for (fun ds S => ∃ pre post, as = pre ++ post ∧ ds = post.map enc ∧ J pre S) ⟨[], as, rfl, rfl, h0⟩ (fun d rest S ⟨pre, post, e1, e2, j⟩ => ?_) fun S ⟨pre, post, e1, e2, j⟩ => ?_
  · cases post with
    | nil => cases e2
    | cons a post =>
      cases e2
      refine wp_mono (hs pre a post e1 S j) fun u S1 h1 => wp_mono h1 fun o S2 h2 => ?_
      have k : ∀ S, J (pre ++ [a]) S → ∃ pre' post', as = pre' ++ post' ∧ post.map enc = post'.map enc ∧ J pre' S := fun S j => ⟨pre ++ [a], post, by rw [e1]; simp, rfl, j⟩
      cases o with
      | nx => exact k _ h2
      | ct => exact k _ h2
      | bk => exact h2
      | rt r => exact h2
  · cases post with
    | nil => rw [List.append_nil] at e1; subst e1; exact he S j
    | cons a post => cases e2
/-- the same over range(n) -/
theorem wp_forR {n : Nat} {g : O → Mn Unit} {b : Mn Out} {Q : Out → Sl → Prop} (J : Nat → Sl → Prop) {S : Sl} (h0 : J 0 S) (hs : ∀ i, i < n → ∀ S, J i S → wp (g (.d (.int (i : Int)))) S (uB b (lpK (J (i + 1)) Q))) (he : ∀ S, J n S → Q .nx S) : wp (forS g b (rangeD 0 n)) S Q := by
  refine wp_for (fun ds S => ∃ i, i ≤ n ∧ ds = (rangeD 0 n).drop i ∧ J i S) ⟨0, Nat.zero_le _, rfl, h0⟩ (fun d rest S ⟨i, hi, e, j⟩ => ?_) fun S ⟨i, hi, e, j⟩ => ?_
  · have hl : (rangeD 0 n).length = n := by simp
    have hlt : i < n := by
      rcases Nat.lt_or_ge i n with h | h
      · exact h
      · rw [List.drop_eq_nil_of_le (by omega)] at e; cases e
    rw [List.drop_eq_getElem_cons (by omega)] at e
    injection e with e1 e2
    have e3 : d = .int (i : Int) := by rw [e1]; simp
    subst e3
    refine wp_mono (hs i hlt S j) fun u S1 h1 => wp_mono h1 fun o S2 h2 => ?_
    cases o with
    | nx => exact ⟨i + 1, hlt, e2, h2⟩
    | ct => exact ⟨i + 1, hlt, e2, h2⟩
    | bk => exact h2
    | rt r => exact h2
  · have hl : (rangeD 0 n).length = n := by simp
    have : n ≤ i := by
      have := congrArg List.length e
      simp at this
      omega
    have : i = n := by omega
    subst this
    exact he S j
/-- a while loop: J with a bound on the turns left -/
theorem wp_while {p : Mn Bool} {b : Mn Out} {Q : Out → Sl → Prop} (J : Nat → Sl → Prop) (hs : ∀ n S, J n S → wp p S (cnd (wpS b (lpK (fun S => ∃ m, m < n ∧ J m S) Q)) (Q .nx))) {n : Nat} {S : Sl} (h0 : J n S) : wp (whS p b) S Q := by
  have key : ∀ n, ∀ k, k < n → ∀ S, J k S → wp (whN p b n) S Q := by
    intro n
    induction n with
    | zero => intro k hk; omega
    | succ n ih =>
      intro k hk S j
      unfold whN
      rw [wp_bnd]
      refine wp_mono (hs k S j) fun t S1 h1 => ?_
      rw [bK_eq]
      cases t with
      | false => with_unfolding_all exact h1
      | true =>
        show wp (bnd b _) S1 Q
        rw [wp_bnd]
        refine wp_mono (show wp b S1 _ from h1) fun o S2 h2 => ?_
        rw [bK_eq]
        exact lpK_bK _ _ _ (fun S3 ⟨m, hm, j'⟩ => ih m (by omega) S3 j') h2
  have h := key (n + 1) n (Nat.lt_succ_self n) S h0
  unfold wp at h ⊢
  have nb : whN p b (n + 1) S ≠ .bad := fun e => by rw [e] at h; exact h
  rw [whS_of nb]
  exact h
/-! comprehensions -/
def coE (vs : List Nat) (S0 : Sl) (Q : A → Sl → Prop) (acc : List D) (S : Sl) : Prop := Q (.v (.own (.lst acc))) (restS S0 vs S)
def co0 (vs : List Nat) (g : O → Mn Unit) (p : Mn Bool) (f : Mn A) (Q : A → Sl → Prop) (ds : List D) (S : Sl) : Prop := wp (compL vs g p f ds []) (wipeS S vs) (coE vs S Q)
theorem wp_compA (vs : List Nat) (s : Mn (List D)) (g : O → Mn Unit) (p : Mn Bool) (f : Mn A) (Q : A → Sl → Prop) : wp (compA vs s g p f) S Q = wp s S (co0 vs g p f Q) := by
  unfold compA
  rw [wp_bnd]
  refine congrArg _ (funext fun ds => funext fun S1 => ?_)
  unfold bK co0 wp coE
  dsimp only
  cases compL vs g p f ds [] (wipeS S1 vs) <;> with_unfolding_all rfl
theorem co0_eq (vs : List Nat) (g : O → Mn Unit) (p : Mn Bool) (f : Mn A) (Q : A → Sl → Prop) (ds : List D) : co0 vs g p f Q ds S = wp (compL vs g p f ds []) (wipeS S vs) (coE vs S Q) := by with_unfolding_all rfl
theorem coE_eq (vs : List Nat) (S0 : Sl) (Q : A → Sl → Prop) (acc : List D) : coE vs S0 Q acc S = Q (.v (.own (.lst acc))) (restS S0 vs S) := by with_unfolding_all rfl
/-- an element's end: its datum and the slots, wiped -/
def ceD (vs : List Nat) (R : D → Sl → Prop) (d : D) (S : Sl) : Prop := R d (wipeS S vs)
def ceA (vs : List Nat) (R : D → Sl → Prop) (a : A) (S : Sl) : Prop := wp (toD a) S (ceD vs R)
theorem ceA_eq (vs : List Nat) (R : D → Sl → Prop) (a : A) : ceA vs R a S = wp (toD a) S (ceD vs R) := by with_unfolding_all rfl
theorem ceD_eq (vs : List Nat) (R : D → Sl → Prop) (d : D) : ceD vs R d S = R d (wipeS S vs) := by with_unfolding_all rfl
def ceP (vs : List Nat) (f : Mn A) (R : D → Sl → Prop) (N : Sl → Prop) : Bool → Sl → Prop := cnd (wpS f (ceA vs R)) (fun S => N (wipeS S vs))
theorem ceP_eq (vs : List Nat) (f : Mn A) (R : D → Sl → Prop) (N : Sl → Prop) (b : Bool) : ceP vs f R N b S = cnd (wpS f (ceA vs R)) (fun S => N (wipeS S vs)) b S := by with_unfolding_all rfl
def uP (p : Mn Bool) (R : Bool → Sl → Prop) (_ : Unit) (S : Sl) : Prop := wp p S R
theorem uP_eq (p : Mn Bool) (R : Bool → Sl → Prop) (u : Unit) : uP p R u S = wp p S R := by with_unfolding_all rfl
/-- the general rule: J of what is behind and what is made -/
theorem wp_comp {α : Type} {enc : α → D} {as : List α} {vs : List Nat} {g : O → Mn Unit} {p : Mn Bool} {f : Mn A} {Q : List D → Sl → Prop} (J : List α → List D → Sl → Prop) {S : Sl} (hl : as.length ≤ lim) (h0 : J [] [] S)
    (hs : ∀ pre a post, as = pre ++ a :: post → ∀ acc S, J pre acc S → wp (g (.d (enc a))) S (uP p (ceP vs f (fun d S => J (pre ++ [a]) (acc ++ [d]) S) (fun S => J (pre ++ [a]) acc S)))) (he : ∀ acc S, J as acc S → Q acc S) : wp (compL vs g p f (as.map enc) []) S Q := by
  have key : ∀ post pre acc S, as = pre ++ post → acc.length ≤ pre.length → J pre acc S → wp (compL vs g p f (post.map enc) acc) S Q := by
    intro post
    induction post with
    | nil =>
      intro pre acc S e _ j
      rw [List.append_nil] at e
      subst e
      with_unfolding_all exact he acc S j
    | cons a post ih =>
      intro pre acc S e hla j
      rw [List.map_cons]
      unfold compL
      rw [wp_bnd]
      refine wp_mono (hs pre a post e acc S j) fun u S1 h1 => ?_
      rw [bK_eq, wp_bnd]
      refine wp_mono h1 fun t S2 h2 => ?_
      rw [bK_eq]
      have hlen : pre.length < as.length := by rw [e]; simp
      cases t with
      | false => with_unfolding_all exact ih (pre ++ [a]) acc _ (by rw [e]; simp) (by simp; omega) h2
      | true =>
        show wp (bnd f _) S2 Q
        rw [wp_bnd]
        refine wp_mono (show wp f S2 _ from h2) fun x S3 h3 => ?_
        rw [bK_eq, wp_bnd]
        refine wp_mono (show wp (toD x) S3 _ from h3) fun d S4 h4 => ?_
        have h5 := ih (pre ++ [a]) (acc ++ [d]) _ (by rw [e]; simp) (by simp; omega) h4
        unfold bK wp
        dsimp only
        rw [if_pos (by omega)]
        with_unfolding_all exact h5
  exact key as [] [] S rfl (Nat.le_refl _) h0
/-- a comprehension that leaves the slots as they are -/
theorem wp_compP {α : Type} {enc : α → D} {as : List α} {out : α → D} {vs : List Nat} {g : O → Mn Unit} {p : Mn Bool} {f : Mn A} {Q : List D → Sl → Prop} {S : Sl} (hl : as.length ≤ lim)
    (hs : ∀ a, a ∈ as → wp (g (.d (enc a))) S (uP p (ceP vs f (fun d S' => d = out a ∧ S' = S) (fun _ => False)))) (q : Q (as.map out) S) : wp (compL vs g p f (as.map enc) []) S Q := by
  refine wp_comp (fun pre acc S' => acc = pre.map out ∧ S' = S) hl ⟨rfl, rfl⟩ (fun pre a post e acc S' ⟨h1, h2⟩ => ?_) fun acc S' ⟨h1, h2⟩ => by rw [h1, h2]; exact q
  subst h1 h2
  refine wp_mono (hs a (by rw [e]; simp)) fun u S1 h3 => wp_mono h3 fun t S2 h4 => ?_
  cases t with
  | false => exact h4.elim
  | true =>
    refine wp_mono (show wp f S2 _ from h4) fun x S3 h5 => wp_mono (show wp (toD x) S3 _ from h5) fun d S4 h6 => ?_
    obtain ⟨h7, h8⟩ := h6
    exact ⟨by rw [h7]; simp, h8⟩
/-- with a test -/
theorem wp_compF {α : Type} {enc : α → D} {as : List α} {out : α → D} {c : α → Bool} {vs : List Nat} {g : O → Mn Unit} {p : Mn Bool} {f : Mn A} {Q : List D → Sl → Prop} {S : Sl} (hl : as.length ≤ lim)
    (hs : ∀ a, a ∈ as → wp (g (.d (enc a))) S (uP p (ceP vs f (fun d S' => c a = true ∧ d = out a ∧ S' = S) (fun S' => c a = false ∧ S' = S)))) (q : Q ((as.filter c).map out) S) : wp (compL vs g p f (as.map enc) []) S Q := by
  refine wp_comp (fun pre acc S' => acc = (pre.filter c).map out ∧ S' = S) hl ⟨rfl, rfl⟩ (fun pre a post e acc S' ⟨h1, h2⟩ => ?_) fun acc S' ⟨h1, h2⟩ => by rw [h1, h2]; exact q
  subst h1 h2
  refine wp_mono (hs a (by rw [e]; simp)) fun u S1 h3 => wp_mono h3 fun t S2 h4 => ?_
  cases t with
  | false => obtain ⟨h5, h6⟩ := (show c a = false ∧ _ from h4); exact ⟨by simp [h5], h6⟩
  | true =>
    refine wp_mono (show wp f S2 _ from h4) fun x S3 h5 => wp_mono (show wp (toD x) S3 _ from h5) fun d S4 h6 => ?_
    obtain ⟨h9, h7, h8⟩ := h6
    exact ⟨by rw [h7]; simp [h9], h8⟩
/-! calls of defs -/
/-- (an inductive proposition: nothing unfolds it by itself) -/
inductive wpM (m : Fm) (os : List O) (Q : O → Sl → Prop) : Prop
  | mk (r : O) (S : Sl) (e : m os = .ok r S) (h : Q r S)
theorem wpM_mono {m : Fm} {os : List O} {Q Q' : O → Sl → Prop} (h : wpM m os Q) (k : ∀ r S, Q r S → Q' r S) : wpM m os Q' := by
  obtain ⟨r, S, e, q⟩ := h
  exact ⟨r, S, e, k r S q⟩
theorem wpM_ok {m : Fm} {os : List O} {Q : O → Sl → Prop} (h : wpM m os Q) : ∃ r S, m os = .ok r S ∧ Q r S := by
  obtain ⟨r, S, e, q⟩ := h
  exact ⟨r, S, e, q⟩
theorem wpM_of {m : Fm} {os : List O} {Q : O → Sl → Prop} {r : O} {S : Sl} (e : m os = .ok r S) (h : Q r S) : wpM m os Q := ⟨r, S, e, h⟩
theorem wpM_eq (m : Fm) (os : List O) (Q : O → Sl → Prop) : (match m os with | .ok r S => Q r S | _ => False) = wpM m os Q := by
  refine propext ⟨fun h => ?_, fun ⟨r, S, e, q⟩ => ?_⟩
  · cases e : m os with
    | ok r S => rw [e] at h; exact ⟨r, S, e, h⟩
    | exc x S => rw [e] at h; exact h.elim
    | bad => rw [e] at h; exact h.elim
  · rw [e]; exact q
def cmB (as : List A) (Q : A → Sl → Prop) (S : Sl) (r : O) (S' : Sl) : Prop := Q (.v r) (back as S' S)
def cmO (m : Fm) (as : List A) (Q : A → Sl → Prop) (S : Sl) : Option (List O) → Prop
  | some os => (loans as S).Nodup ∧ wpM m os (cmB as Q S)
  | none => False
def cmA (m : Fm) (Q : A → Sl → Prop) (as : List A) (S : Sl) : Prop := cmO m as Q S (views as S)
theorem wp_callM (m : Fm) (fs : List (Mn A)) (Q : A → Sl → Prop) : wp (callM m fs) S Q = wp (evs fs) S (cmA m Q) := by
  unfold callM
  rw [wp_bnd]
  refine congrArg _ (funext fun as => funext fun S1 => ?_)
  unfold bK wp cmA cmO
  dsimp only
  cases e : views as S1 with
  | none => with_unfolding_all rfl
  | some os =>
    simp only
    by_cases h : (loans as S1).Nodup
    · simp only [h, if_true, true_and]
      rw [← wpM_eq]
      unfold cmB
      cases m os <;> with_unfolding_all rfl
    · simp [h]
theorem cmA_eq (m : Fm) (Q : A → Sl → Prop) (as : List A) : cmA m Q as S = cmO m as Q S (views as S) := by with_unfolding_all rfl
theorem cmO_some (m : Fm) (as : List A) (Q : A → Sl → Prop) (os : List O) : cmO m as Q S (some os) = ((loans as S).Nodup ∧ wpM m os (cmB as Q S)) := by with_unfolding_all rfl
theorem cmB_eq (as : List A) (Q : A → Sl → Prop) (r : O) (S' : Sl) : cmB as Q S r S' = Q (.v r) (back as S' S) := by with_unfolding_all rfl
def ckA (is : List Nat) (m : Fm) (Q : A → Sl → Prop) (as : List A) (S : Sl) : Prop := cmO m (pk is as) Q S (views (pk is as) S)
theorem wp_callK (is : List Nat) (m : Fm) (fs : List (Mn A)) (Q : A → Sl → Prop) : wp (callK is m fs) S Q = wp (evs fs) S (ckA is m Q) := by
  unfold callK
  rw [wp_bnd]
  refine congrArg _ (funext fun as => funext fun S1 => ?_)
  unfold bK wp ckA cmO
  dsimp only
  cases e : views (pk is as) S1 with
  | none => with_unfolding_all rfl
  | some os =>
    simp only
    by_cases h : (loans (pk is as) S1).Nodup
    · simp only [h, if_true, true_and]
      rw [← wpM_eq]
      unfold cmB
      cases m os <;> with_unfolding_all rfl
    · simp [h]
theorem ckA_eq (is : List Nat) (m : Fm) (Q : A → Sl → Prop) (as : List A) : ckA is m Q as S = cmO m (pk is as) Q S (views (pk is as) S) := by with_unfolding_all rfl
theorem pk0 {α : Type} (l : List α) : pk [] l = [] := by with_unfolding_all rfl
theorem pk1 {α : Type} (i : Nat) (is : List Nat) (l : List α) : pk (i :: is) l = (match l[i]? with | some x => x :: pk is l | none => pk is l) := by
  unfold pk
  rw [List.filterMap_cons]
  cases l[i]? <;> with_unfolding_all rfl
def fmE (n : Nat) (fx : Nat → Bool) (Q : O → Sl → Prop) (o : Out) (S : Sl) : Prop := match o with
  | .rt r => Q r (maskS fx 0 (S.take n))
  | .nx => Q (.d .non) (maskS fx 0 (S.take n))
  | _ => False
theorem wpM_fm (N n : Nat) (fx : Nat → Bool) (b : Mn Out) (os : List O) (Q : O → Sl → Prop) : wpM (fm N n fx b) os Q = wp b (slots N os) (fmE n fx Q) := by
  rw [← wpM_eq]
  unfold fm wp fmE
  cases b (slots N os) with
  | bad => with_unfolding_all rfl
  | exc x S => with_unfolding_all rfl
  | ok o S => cases o <;> with_unfolding_all rfl
theorem fmE_rt (n : Nat) (fx : Nat → Bool) (Q : O → Sl → Prop) (r : O) : fmE n fx Q (.rt r) S = Q r (maskS fx 0 (S.take n)) := by with_unfolding_all rfl
theorem fmE_nx (n : Nat) (fx : Nat → Bool) (Q : O → Sl → Prop) : fmE n fx Q .nx S = Q (.d .non) (maskS fx 0 (S.take n)) := by with_unfolding_all rfl
end
/-! ### operations by the kinds of their operands -/
theorem aAdd_ii (i j : Int) : aAdd (.d (.int i)) (.d (.int j)) = some (.d (.int (i + j))) := rfl
theorem aAdd_ss (a b : Str) : aAdd (.d (.str a)) (.d (.str b)) = if a.length + b.length ≤ lim then some (.d (.str (a ++ b))) else none := by
  simp only [aAdd, alt2, i2, sAdd]
  by_cases h : a.length + b.length ≤ lim <;> simp [h]
theorem aAdd_tt (a b : List D) : aAdd (.d (.tup a)) (.d (.tup b)) = if a.length + b.length ≤ lim then some (.d (.tup (a ++ b))) else none := by
  simp only [aAdd, alt2, i2, sAdd, tCat]
  by_cases h : a.length + b.length ≤ lim <;> simp [h]
theorem aAdd_oo (a b : List D) : aAdd (.own (.lst a)) (.own (.lst b)) = if a.length + b.length ≤ lim then some (.own (.lst (a ++ b))) else none := by
  simp only [aAdd, alt2, i2, sAdd, tCat, lCat, oM]
theorem aAdd_do (a b : List D) : aAdd (.d (.lst a)) (.own (.lst b)) = if a.length + b.length ≤ lim then some (.own (.lst (a ++ b))) else none := by
  simp only [aAdd, alt2, i2, sAdd, tCat, lCat, oM]
theorem aAddI_ii (i j : Int) : aAddI (.d (.int i)) (.d (.int j)) = some (.d (.int (i + j))) := rfl
theorem aSub_ii (i j : Int) : aSub (.d (.int i)) (.d (.int j)) = some (.d (.int (i - j))) := rfl
theorem aMul_ii (i j : Int) : aMul (.d (.int i)) (.d (.int j)) = if mulOk i j = true then some (.d (.int (i * j))) else none := by
  simp only [aMul, alt2, i2, lRep, tRep, oM, oT]
  by_cases h : mulOk i j = true <;> simp [h]
theorem aDiv_ii (i j : Int) : aDiv (.d (.int i)) (.d (.int j)) = if divOk j = true then some (.d (.int (i.fdiv j))) else none := by
  simp only [aDiv, i2]
theorem aMod_ii (i j : Int) : aMod (.d (.int i)) (.d (.int j)) = if j ≠ 0 then some (.d (.int (i.fmod j))) else none := by
  simp only [aMod, i2]
  by_cases h : j = 0 <;> simp [h]
theorem aPow_ii (i j : Int) : aPow (.d (.int i)) (.d (.int j)) = if powOk i j = true then some (.d (.int (i ^ j.toNat))) else none := by
  simp only [aPow, i2]
theorem aNeg_i (i : Int) : aNeg (.d (.int i)) = some (.d (.int (-i))) := rfl
theorem cLt_ii (i j : Int) : cLt (.d (.int i)) (.d (.int j)) = some (.d (.bl (decide (i < j)))) := rfl
theorem cLe_ii (i j : Int) : cLe (.d (.int i)) (.d (.int j)) = some (.d (.bl (decide (i ≤ j)))) := rfl
theorem cGt_ii (i j : Int) : cGt (.d (.int i)) (.d (.int j)) = some (.d (.bl (decide (j < i)))) := rfl
theorem cGe_ii (i j : Int) : cGe (.d (.int i)) (.d (.int j)) = some (.d (.bl (decide (j ≤ i)))) := rfl
theorem cEq_ii (i j : Int) : cEq (.d (.int i)) (.d (.int j)) = some (.d (.bl (decide (i = j)))) := rfl
theorem cNe_ii (i j : Int) : cNe (.d (.int i)) (.d (.int j)) = some (.d (.bl (!decide (i = j)))) := rfl
theorem cEq_ss (i j : Str) : cEq (.d (.str i)) (.d (.str j)) = some (.d (.bl (decide (i = j)))) := rfl
theorem cNe_ss (i j : Str) : cNe (.d (.str i)) (.d (.str j)) = some (.d (.bl (!decide (i = j)))) := rfl
theorem cEq_bb (i j : Bool) : cEq (.d (.bl i)) (.d (.bl j)) = some (.d (.bl (decide (i = j)))) := rfl
theorem cNe_bb (i j : Bool) : cNe (.d (.bl i)) (.d (.bl j)) = some (.d (.bl (!decide (i = j)))) := rfl
/-! reading an item -/
theorem atI_n {α : Type} (xs : List α) (n : Nat) : atI xs (n : Int) = xs[n]? := by
  unfold atI ixN
  rw [if_pos (by omega)]
  by_cases h : n < xs.length
  · rw [if_pos (by omega)] <;> rfl
  · rw [if_neg (by omega), List.getElem?_eq_none (by omega)] <;> rfl
theorem ixN_n {n k : Nat} (h : k < n) : ixN n (k : Int) = some k := by
  unfold ixN
  rw [if_pos (by omega), if_pos (by omega)] <;> rfl
theorem atI0 {α : Type} (x : α) (xs : List α) : atI (x :: xs) 0 = some x := atI_n (x :: xs) 0
theorem atI1 {α : Type} (x y : α) (xs : List α) : atI (x :: y :: xs) 1 = some y := atI_n (x :: y :: xs) 1
theorem atI2 {α : Type} (x y z : α) (xs : List α) : atI (x :: y :: z :: xs) 2 = some z := atI_n (x :: y :: z :: xs) 2
theorem atI3 {α : Type} (x y z u : α) (xs : List α) : atI (x :: y :: z :: u :: xs) 3 = some u := atI_n (x :: y :: z :: u :: xs) 3
theorem atIm {α : Type} (xs : List α) (x : α) : atI (xs ++ [x]) (-1) = some x := by
  unfold atI ixN
  simp only [List.length_append, List.length_singleton]
  rw [if_neg (by omega), if_pos (by omega)]
  simp only [Option.bind_some]
  rw [show ((-1 : Int) + ((xs.length + 1 : Nat) : Int)).toNat = xs.length by omega]
  simp
theorem aIx_l (xs : List D) (i : Int) : aIx (.own (.lst xs)) (.d (.int i)) = (atI xs i).map .d := by
  simp only [aIx, alt2, lIx, tIx, sIx, dIx, oL, oT, dget]
  cases atI xs i <;> rfl
theorem aIx_f (xs : List D) (i : Int) : aIx (.d (.lst xs)) (.d (.int i)) = (atI xs i).map .d := by
  simp only [aIx, alt2, lIx, tIx, sIx, dIx, oL, oT, dget]
  cases atI xs i <;> rfl
theorem aIx_k (xs : List D) (i : Int) : aIx (.d (.lk xs)) (.d (.int i)) = (atI xs i).map .d := by
  simp only [aIx, alt2, lIx, tIx, sIx, dIx, oL, oT, dget]
  cases atI xs i <;> rfl
theorem aIx_t (xs : List D) (i : Int) : aIx (.d (.tup xs)) (.d (.int i)) = (atI xs i).map .d := by
  simp only [aIx, alt2, lIx, tIx, sIx, dIx, oL, oT, dget]
  cases atI xs i <;> rfl
theorem aIx_s (z : Str) (i : Int) : aIx (.d (.str z)) (.d (.int i)) = if z.length ≤ lim then (atI z.cps.toList i).map fun c => .d (.str ⟨#[c]⟩) else none := by
  simp only [aIx, alt2, lIx, tIx, sIx, dIx, oL, oT, dget]
  by_cases h : z.length ≤ lim
  · simp only [h, if_true]; cases atI z.cps.toList i <;> rfl
  · simp only [h, if_false]
theorem aIx_dk (kvs : List (Key × D)) (x : D) : aIx (.own (.dk kvs)) (.d x) = ((keyOf x).bind (valD kvs)).map .d := by
  have e : aIx (.own (.dk kvs)) (.d x) = dIx (.own (.dk kvs)) (.d x) := by simp only [aIx, alt2, lIx, tIx, sIx, oL, oT]
  rw [e]
  simp only [dIx, dget]
  cases keyOf x with
  | none => rfl
  | some k => cases h : valD kvs k <;> simp [h]
theorem aIx_fk (kvs : List (Key × D)) (x : D) : aIx (.d (.dk kvs)) (.d x) = ((keyOf x).bind (valD kvs)).map .d := by
  have e : aIx (.d (.dk kvs)) (.d x) = dIx (.d (.dk kvs)) (.d x) := by simp only [aIx, alt2, lIx, tIx, sIx, oL, oT]
  rw [e]
  simp only [dIx, dget]
  cases keyOf x with
  | none => rfl
  | some k => cases h : valD kvs k <;> simp [h]
/-- a symbolic place that stands in the list -/
theorem atI_of {α : Type} {xs : List α} {i : Int} (h0 : 0 ≤ i) (h : i < xs.length) : ∃ x, atI xs i = some x ∧ xs[i.toNat]? = some x := by
  obtain ⟨n, rfl⟩ : ∃ n : Nat, i = n := ⟨i.toNat, by omega⟩
  have hi : n < xs.length := by omega
  refine ⟨xs[n], ?_, ?_⟩
  · rw [atI_n, List.getElem?_eq_getElem hi]
  · rw [Int.toNat_natCast, List.getElem?_eq_getElem hi]
theorem fmod_b {i j : Int} (h : 0 < j) : 0 ≤ i.fmod j ∧ i.fmod j < j := ⟨Int.fmod_nonneg_of_pos i h, Int.fmod_lt_of_pos i h⟩
theorem isi_bool (x : O) : isiN .bool [x, .d (.ty "bool")] = isI .bool x := by
  unfold isiN
  exact if_pos rfl
theorem isI_bool_non : isI .bool (.d (.non)) = some (.d (.bl false)) := rfl
theorem isI_bool_bl (b : Bool) : isI .bool (.d (.bl b)) = some (.d (.bl true)) := rfl
theorem isI_bool_int (i : Int) : isI .bool (.d (.int i)) = some (.d (.bl false)) := rfl
theorem isI_bool_str (z : Str) : isI .bool (.d (.str z)) = some (.d (.bl false)) := rfl
theorem isI_bool_tup (xs : List D) : isI .bool (.d (.tup xs)) = some (.d (.bl false)) := rfl
theorem isI_bool_lst (xs : List D) : isI .bool (.d (.lst xs)) = some (.d (.bl false)) := rfl
theorem isI_bool_lk (xs : List D) : isI .bool (.d (.lk xs)) = some (.d (.bl false)) := rfl
theorem isI_bool_own (xs : List D) : isI .bool (.own (.lst xs)) = some (.d (.bl false)) := rfl
theorem isi_int (x : O) : isiN .int [x, .d (.ty "int")] = isI .int x := by
  unfold isiN
  exact if_pos rfl
theorem isI_int_non : isI .int (.d (.non)) = some (.d (.bl false)) := rfl
theorem isI_int_bl (b : Bool) : isI .int (.d (.bl b)) = some (.d (.bl true)) := rfl
theorem isI_int_int (i : Int) : isI .int (.d (.int i)) = some (.d (.bl true)) := rfl
theorem isI_int_str (z : Str) : isI .int (.d (.str z)) = some (.d (.bl false)) := rfl
theorem isI_int_tup (xs : List D) : isI .int (.d (.tup xs)) = some (.d (.bl false)) := rfl
theorem isI_int_lst (xs : List D) : isI .int (.d (.lst xs)) = some (.d (.bl false)) := rfl
theorem isI_int_lk (xs : List D) : isI .int (.d (.lk xs)) = some (.d (.bl false)) := rfl
theorem isI_int_own (xs : List D) : isI .int (.own (.lst xs)) = some (.d (.bl false)) := rfl
theorem isi_str (x : O) : isiN .str [x, .d (.ty "str")] = isI .str x := by
  unfold isiN
  exact if_pos rfl
theorem isI_str_non : isI .str (.d (.non)) = some (.d (.bl false)) := rfl
theorem isI_str_bl (b : Bool) : isI .str (.d (.bl b)) = some (.d (.bl false)) := rfl
theorem isI_str_int (i : Int) : isI .str (.d (.int i)) = some (.d (.bl false)) := rfl
theorem isI_str_str (z : Str) : isI .str (.d (.str z)) = some (.d (.bl true)) := rfl
theorem isI_str_tup (xs : List D) : isI .str (.d (.tup xs)) = some (.d (.bl false)) := rfl
theorem isI_str_lst (xs : List D) : isI .str (.d (.lst xs)) = some (.d (.bl false)) := rfl
theorem isI_str_lk (xs : List D) : isI .str (.d (.lk xs)) = some (.d (.bl false)) := rfl
theorem isI_str_own (xs : List D) : isI .str (.own (.lst xs)) = some (.d (.bl false)) := rfl
theorem isi_tuple (x : O) : isiN .tuple [x, .d (.ty "tuple")] = isI .tuple x := by
  unfold isiN
  exact if_pos rfl
theorem isI_tuple_non : isI .tuple (.d (.non)) = some (.d (.bl false)) := rfl
theorem isI_tuple_bl (b : Bool) : isI .tuple (.d (.bl b)) = some (.d (.bl false)) := rfl
theorem isI_tuple_int (i : Int) : isI .tuple (.d (.int i)) = some (.d (.bl false)) := rfl
theorem isI_tuple_str (z : Str) : isI .tuple (.d (.str z)) = some (.d (.bl false)) := rfl
theorem isI_tuple_tup (xs : List D) : isI .tuple (.d (.tup xs)) = some (.d (.bl true)) := rfl
theorem isI_tuple_lst (xs : List D) : isI .tuple (.d (.lst xs)) = some (.d (.bl false)) := rfl
theorem isI_tuple_lk (xs : List D) : isI .tuple (.d (.lk xs)) = some (.d (.bl false)) := rfl
theorem isI_tuple_own (xs : List D) : isI .tuple (.own (.lst xs)) = some (.d (.bl false)) := rfl
theorem isi_list (x : O) : isiN .list [x, .d (.ty "list")] = isI .list x := by
  unfold isiN
  exact if_pos rfl
theorem isI_list_non : isI .list (.d (.non)) = some (.d (.bl false)) := rfl
theorem isI_list_bl (b : Bool) : isI .list (.d (.bl b)) = some (.d (.bl false)) := rfl
theorem isI_list_int (i : Int) : isI .list (.d (.int i)) = some (.d (.bl false)) := rfl
theorem isI_list_str (z : Str) : isI .list (.d (.str z)) = some (.d (.bl false)) := rfl
theorem isI_list_tup (xs : List D) : isI .list (.d (.tup xs)) = some (.d (.bl false)) := rfl
theorem isI_list_lst (xs : List D) : isI .list (.d (.lst xs)) = some (.d (.bl true)) := rfl
theorem isI_list_lk (xs : List D) : isI .list (.d (.lk xs)) = some (.d (.bl true)) := rfl
theorem isI_list_own (xs : List D) : isI .list (.own (.lst xs)) = some (.d (.bl true)) := rfl
theorem tru_bl (b : Bool) : tru (.d (.bl b)) = some b := rfl
theorem oLen_t (xs : List D) : oLen (.d (.tup xs)) = some (.d (.int xs.length)) := rfl
theorem oLen_l (xs : List D) : oLen (.d (.lst xs)) = some (.d (.int xs.length)) := rfl
theorem oLen_k (xs : List D) : oLen (.d (.lk xs)) = some (.d (.int xs.length)) := rfl
theorem oLen_o (xs : List D) : oLen (.own (.lst xs)) = some (.d (.int xs.length)) := rfl
theorem oInt_i (i : Int) : oInt (.d (.int i)) = some (.d (.int i)) := rfl
theorem oInt_b (b : Bool) : oInt (.d (.bl b)) = some (.d (.int (if b then 1 else 0))) := rfl
theorem oTuple_lst (xs : List D) : oTuple (.d (.lst xs)) = some (.d (.tup xs)) := rfl
theorem oTuple_lk (xs : List D) : oTuple (.d (.lk xs)) = some (.d (.tup xs)) := rfl
theorem oTuple_tup (xs : List D) : oTuple (.d (.tup xs)) = some (.d (.tup xs)) := rfl
theorem oTuple_own (xs : List D) : oTuple (.own (.lst xs)) = some (.d (.tup xs)) := rfl
theorem oList_lst (xs : List D) : oList (.d (.lst xs)) = some (.own (.lst xs)) := rfl
theorem oLT_lst (xs : List D) : oLT (.d (.lst xs)) = some xs := rfl
theorem seqD_lst (xs : List D) : seqD (.lst xs) = some xs := rfl
theorem oList_lk (xs : List D) : oList (.d (.lk xs)) = some (.own (.lst xs)) := rfl
theorem oLT_lk (xs : List D) : oLT (.d (.lk xs)) = some xs := rfl
theorem seqD_lk (xs : List D) : seqD (.lk xs) = some xs := rfl
theorem oList_tup (xs : List D) : oList (.d (.tup xs)) = some (.own (.lst xs)) := rfl
theorem oLT_tup (xs : List D) : oLT (.d (.tup xs)) = some xs := rfl
theorem seqD_tup (xs : List D) : seqD (.tup xs) = some xs := rfl
theorem oList_own (xs : List D) : oList (.own (.lst xs)) = some (.own (.lst xs)) := rfl
theorem oLT_own (xs : List D) : oLT (.own (.lst xs)) = some xs := rfl
theorem seqD_str (z : Str) : seqD (.str z) = some (signsD z) := rfl
theorem rg1_i (j : Int) : rg1 [.d (.int j)] = if i62 j = true then some (rangeD 0 j.toNat) else none := rfl
theorem rg2_i (i j : Int) : rg2 [.d (.int i), .d (.int j)] = if (i62 i && i62 j) = true then some (rangeD i (j - i).toNat) else none := rfl
theorem en1_l (xs : List D) : en1 [.lst xs] = some (enumD xs) := rfl
theorem en1_t (xs : List D) : en1 [.tup xs] = some (enumD xs) := rfl
theorem zp2_l (xs ys : List D) : zp2 [.lst xs, .lst ys] = some (zipD xs ys) := rfl
theorem zp2_t (xs ys : List D) : zp2 [.tup xs, .tup ys] = some (zipD xs ys) := rfl
theorem notV_b (b : Bool) : notV (.d (.bl b)) = some (.d (.bl !b)) := rfl
theorem i62_nat {n : Nat} (h : n < 4611686018427387904) : i62 (n : Int) = true := by
  unfold i62
  rw [Bool.and_eq_true, decide_eq_true_eq, decide_eq_true_eq]
  omega
theorem i62_of {i : Int} (h0 : -4611686018427387904 ≤ i) (h : i < 4611686018427387904) : i62 i = true := by
  unfold i62
  rw [Bool.and_eq_true, decide_eq_true_eq, decide_eq_true_eq]
  omega
end FR

namespace FR
open PySem PySem.Spec L2
/-! ### dict comprehensions -/
section
variable {S : Sl}
def dcE (vs : List Nat) (S0 : Sl) (Q : A → Sl → Prop) (acc : List (Key × D)) (S : Sl) : Prop := Q (.v (.own (.dk acc))) (restS S0 vs S)
def dc0 (vs : List Nat) (g : O → Mn Unit) (p : Mn Bool) (fk f : Mn A) (Q : A → Sl → Prop) (ds : List D) (S : Sl) : Prop := wp (dcL vs g p fk f ds []) (wipeS S vs) (dcE vs S Q)
theorem wp_dcA (vs : List Nat) (s : Mn (List D)) (g : O → Mn Unit) (p : Mn Bool) (fk f : Mn A) (Q : A → Sl → Prop) : wp (dcA vs s g p fk f) S Q = wp s S (dc0 vs g p fk f Q) := by
  unfold dcA
  rw [wp_bnd]
  refine congrArg _ (funext fun ds => funext fun S1 => ?_)
  unfold bK dc0 wp dcE
  dsimp only
  cases dcL vs g p fk f ds [] (wipeS S1 vs) <;> with_unfolding_all rfl
theorem dc0_eq (vs : List Nat) (g : O → Mn Unit) (p : Mn Bool) (fk f : Mn A) (Q : A → Sl → Prop) (ds : List D) : dc0 vs g p fk f Q ds S = wp (dcL vs g p fk f ds []) (wipeS S vs) (dcE vs S Q) := by with_unfolding_all rfl
theorem dcE_eq (vs : List Nat) (S0 : Sl) (Q : A → Sl → Prop) (acc : List (Key × D)) : dcE vs S0 Q acc S = Q (.v (.own (.dk acc))) (restS S0 vs S) := by with_unfolding_all rfl
/-- a pair's end -/
def dKK (R : Key → Prop) : Option Key → Prop
  | some k => R k
  | none => False
theorem dKK_some (R : Key → Prop) (k : Key) : dKK R (some k) = R k := by with_unfolding_all rfl
def deV (vs : List Nat) (y : D) (R : Key → D → Sl → Prop) (z : D) (S : Sl) : Prop := dKK (fun k => R k z (wipeS S vs)) (keyOf y)
def deB (vs : List Nat) (y : D) (R : Key → D → Sl → Prop) (b : A) (S : Sl) : Prop := wp (toD b) S (deV vs y R)
def deY (vs : List Nat) (f : Mn A) (R : Key → D → Sl → Prop) (y : D) (S : Sl) : Prop := wp f S (deB vs y R)
def deA (vs : List Nat) (f : Mn A) (R : Key → D → Sl → Prop) (a : A) (S : Sl) : Prop := wp (toD a) S (deY vs f R)
def deP (vs : List Nat) (fk f : Mn A) (R : Key → D → Sl → Prop) (N : Sl → Prop) : Bool → Sl → Prop := cnd (wpS fk (deA vs f R)) (fun S => N (wipeS S vs))
theorem deV_eq (vs : List Nat) (y : D) (R : Key → D → Sl → Prop) (z : D) : deV vs y R z S = dKK (fun k => R k z (wipeS S vs)) (keyOf y) := by with_unfolding_all rfl
theorem deB_eq (vs : List Nat) (y : D) (R : Key → D → Sl → Prop) (b : A) : deB vs y R b S = wp (toD b) S (deV vs y R) := by with_unfolding_all rfl
theorem deY_eq (vs : List Nat) (f : Mn A) (R : Key → D → Sl → Prop) (y : D) : deY vs f R y S = wp f S (deB vs y R) := by with_unfolding_all rfl
theorem deA_eq (vs : List Nat) (f : Mn A) (R : Key → D → Sl → Prop) (a : A) : deA vs f R a S = wp (toD a) S (deY vs f R) := by with_unfolding_all rfl
theorem deP_eq (vs : List Nat) (fk f : Mn A) (R : Key → D → Sl → Prop) (N : Sl → Prop) (b : Bool) : deP vs fk f R N b S = cnd (wpS fk (deA vs f R)) (fun S => N (wipeS S vs)) b S := by with_unfolding_all rfl
theorem keyOf_int (i : Int) : keyOf (.int i) = some (.inl i) := by with_unfolding_all rfl
theorem keyOf_str (z : Str) : keyOf (.str z) = some (.inr z) := by with_unfolding_all rfl
theorem putD_len {κ : Type} [DecidableEq κ] {kvs : List (κ × D)} {k : κ} {v : D} : (putD kvs k v).length ≤ kvs.length + 1 := by
  unfold putD
  split
  · rw [List.length_map]; omega
  · rw [List.length_append]; simp
theorem wp_dc {α : Type} {enc : α → D} {as : List α} {vs : List Nat} {g : O → Mn Unit} {p : Mn Bool} {fk f : Mn A} {Q : List (Key × D) → Sl → Prop} (J : List α → List (Key × D) → Sl → Prop) {S : Sl} (hl : as.length ≤ lim) (h0 : J [] [] S)
    (hs : ∀ pre a post, as = pre ++ a :: post → ∀ acc S, J pre acc S → wp (g (.d (enc a))) S (uP p (deP vs fk f (fun k d S => J (pre ++ [a]) (putD acc k d) S) (fun S => J (pre ++ [a]) acc S)))) (he : ∀ acc S, J as acc S → Q acc S) : wp (dcL vs g p fk f (as.map enc) []) S Q := by
  have key : ∀ post pre acc S, as = pre ++ post → acc.length ≤ pre.length → J pre acc S → wp (dcL vs g p fk f (post.map enc) acc) S Q := by
    intro post
    induction post with
    | nil =>
      intro pre acc S e _ j
      rw [List.append_nil] at e
      subst e
      with_unfolding_all exact he acc S j
    | cons a post ih =>
      intro pre acc S e hla j
      rw [List.map_cons]
      unfold dcL
      rw [wp_bnd]
      refine wp_mono (hs pre a post e acc S j) fun u S1 h1 => ?_
      rw [bK_eq, wp_bnd]
      refine wp_mono h1 fun t S2 h2 => ?_
      rw [bK_eq]
      have hlen : pre.length < as.length := by rw [e]; simp
      cases t with
      | false => with_unfolding_all exact ih (pre ++ [a]) acc _ (by rw [e]; simp) (by simp; omega) h2
      | true =>
        show wp (bnd fk _) S2 Q
        rw [wp_bnd]
        refine wp_mono (show wp fk S2 _ from h2) fun x S3 h3 => ?_
        rw [bK_eq, wp_bnd]
        refine wp_mono (show wp (toD x) S3 _ from h3) fun y S4 h4 => ?_
        rw [bK_eq, wp_bnd]
        refine wp_mono (show wp f S4 _ from h4) fun b S5 h5 => ?_
        rw [bK_eq, wp_bnd]
        refine wp_mono (show wp (toD b) S5 _ from h5) fun z S6 h6 => ?_
        have h7 : dKK (fun k => J (pre ++ [a]) (putD acc k z) (wipeS S6 vs)) (keyOf y) := h6
        unfold bK wp
        dsimp only
        cases ek : keyOf y with
        | none => rw [ek] at h7; exact h7.elim
        | some k =>
          rw [ek] at h7
          have := putD_len (kvs := acc) (k := k) (v := z)
          have h8 := ih (pre ++ [a]) (putD acc k z) _ (by rw [e]; simp) (by simp; omega) h7
          dsimp only
          rw [if_pos (by omega)]
          with_unfolding_all exact h8
  exact key as [] [] S rfl (Nat.le_refl _) h0
end
/-! ### lists of whole numbers -/
def eI (n : Nat) : D := .int (n : Nat)
theorem eqD_int (i j : Int) : eqD (.int i) (.int j) = decide (i = j) := by
  show (i == j) = _
  exact rfl
theorem inD_nat (g : Nat) : ∀ f : List Nat, inD (.int (g : Int)) (f.map eI) = decide (g ∈ f)
  | [] => rfl
  | x :: f => by
    have ih := inD_nat g f
    unfold inD at ih ⊢
    rw [List.map_cons, List.any_cons, ih]
    have : eqD (eI x) (.int (g : Int)) = decide (x = g) := by
      show eqD (.int (x : Int)) (.int (g : Int)) = _
      rw [eqD_int]
      by_cases h : x = g
      · subst h; simp
      · have : ¬ (x : Int) = (g : Int) := by omega
        simp [h, this]
    rw [this]
    by_cases h : x = g
    · subst h; simp
    · have h' : ¬ g = x := fun z => h z.symm
      simp [h, h']
theorem flat_nat : ∀ f : List Nat, (f.map eI).all flatD = true
  | [] => rfl
  | x :: f => by rw [List.map_cons, List.all_cons, flat_nat f] <;> rfl
theorem cIn_o {neg : Bool} (g : Nat) (f : List Nat) : cIn neg (.d (.int (g : Int))) (.own (.lst (f.map eI))) = some (.d (.bl (if neg then !decide (g ∈ f) else decide (g ∈ f)))) := by
  have e : inSq neg (.d (.int (g : Int))) (.own (.lst (f.map eI))) = some (.d (.bl (if neg then !decide (g ∈ f) else decide (g ∈ f)))) := by
    unfold inSq
    rw [oLT_own]
    dsimp only
    rw [flat_nat, inD_nat]
    rfl
  unfold cIn alt2
  rw [e]
theorem cInT_o (g : Nat) (f : List Nat) : cIn true (.d (.int (g : Int))) (.own (.lst (f.map eI))) = some (.d (.bl (!decide (g ∈ f)))) := cIn_o g f
theorem cInF_o (g : Nat) (f : List Nat) : cIn false (.d (.int (g : Int))) (.own (.lst (f.map eI))) = some (.d (.bl (decide (g ∈ f)))) := cIn_o g f
theorem idx_nat {g : Nat} : ∀ {f : List Nat}, g ∈ f → idxD (.int (g : Int)) (f.map eI) = some (f.idxOf g)
  | [], h => by cases h
  | x :: f, h => by
    unfold idxD
    rw [List.map_cons, List.findIdx?_cons]
    have e : eqD (eI x) (.int (g : Int)) = decide (x = g) := by
      show eqD (.int (x : Int)) (.int (g : Int)) = _
      rw [eqD_int]
      by_cases h : x = g
      · subst h; simp
      · have : ¬ (x : Int) = (g : Int) := by omega
        simp [h, this]
    rw [e]
    by_cases hx : x = g
    · subst hx; simp
    · have ih := idx_nat (g := g) (f := f) (by rcases List.mem_cons.mp h with z | z; exact absurd z.symm hx; exact z)
      unfold idxD at ih
      simp only [hx, decide_false]
      rw [ih]
      rw [List.idxOf_cons]
      have hb : (x == g) = false := by simpa using hx
      rw [hb]
      simp
theorem nodup_le : ∀ (N : Nat) (f : List Nat), f.Nodup → (∀ x ∈ f, x < N) → f.length ≤ N
  | 0, f, _, h => by
    cases f with
    | nil => simp
    | cons x f => exact absurd (h x List.mem_cons_self) (by omega)
  | N + 1, f, hn, h => by
    by_cases hN : N ∈ f
    · have h1 := nodup_le N (f.erase N) (hn.erase N) fun x hx => by
        have := hn.mem_erase_iff.mp hx
        have := h x this.2
        omega
      rw [List.length_erase_of_mem hN] at h1
      omega
    · have := nodup_le N f hn fun x hx => by
        have := h x hx
        have : x ≠ N := fun z => hN (z ▸ hx)
        omega
      omega
theorem enum_map {α : Type} (enc : α → D) (as : List α) : enumD (as.map enc) = as.zipIdx.map fun p => .tup [.int (p.2 : Nat), enc p.1] := by
  unfold enumD
  rw [List.zipIdx_map, List.map_map]
  rfl
/-! ### methods that read -/
section
variable {S : Sl}
def mtB (a : A) (g : O → List O → Option O) (Q : A → Sl → Prop) (as : List A) (S : Sl) : Prop := lK Q S ((view a S).bind fun x => (views as S).bind (g x))
def mtA (knd : O → Bool) (a : A) (g : O → List O → Option O) (fs : List (Mn A)) (Q : A → Sl → Prop) (S : Sl) : Option O → Prop
  | some x => knd x = true ∧ wp (evs fs) S (mtB a g Q)
  | none => False
def mt0 (knd : O → Bool) (g : O → List O → Option O) (fs : List (Mn A)) (Q : A → Sl → Prop) (a : A) (S : Sl) : Prop := mtA knd a g fs Q S (view a S)
theorem wp_methN (knd : O → Bool) (g : O → List O → Option O) (f : Mn A) (fs : List (Mn A)) (Q : A → Sl → Prop) : wp (methN knd g f fs) S Q = wp f S (mt0 knd g fs Q) := by
  unfold methN
  rw [wp_bnd]
  refine congrArg _ (funext fun a => funext fun S1 => ?_)
  rw [bK_eq]
  unfold mt0 mtA
  have e : ∀ z : Option O, wp (fun S => match z with | some x => if knd x then bnd (evs fs) (fun as S' => lift ((view a S').bind fun x => (views as S').bind (g x)) S') S else .bad | none => .bad) S1 Q = match z with | some x => (knd x = true ∧ wp (evs fs) S1 (mtB a g Q)) | none => False := fun z => by
    cases z with
    | none => with_unfolding_all rfl
    | some x =>
      by_cases h : knd x = true
      · simp only [h, if_true, true_and]
        show wp (bnd (evs fs) _) S1 Q = _
        rw [wp_bnd]
        refine congrArg _ (funext fun as => funext fun S2 => ?_)
        with_unfolding_all exact wp_lift _ _
      · simp only [h]
        simp [wp]
  with_unfolding_all exact e (view a S1)
theorem mt0_eq (knd : O → Bool) (g : O → List O → Option O) (fs : List (Mn A)) (Q : A → Sl → Prop) (a : A) : mt0 knd g fs Q a S = mtA knd a g fs Q S (view a S) := by with_unfolding_all rfl
theorem mtA_some (knd : O → Bool) (a : A) (g : O → List O → Option O) (fs : List (Mn A)) (Q : A → Sl → Prop) (x : O) : mtA knd a g fs Q S (some x) = (knd x = true ∧ wp (evs fs) S (mtB a g Q)) := by with_unfolding_all rfl
theorem mtB_eq (a : A) (g : O → List O → Option O) (Q : A → Sl → Prop) (as : List A) : mtB a g Q as S = lK Q S ((view a S).bind fun x => (views as S).bind (g x)) := by with_unfolding_all rfl
theorem kLst_o (xs : List D) : kLst (.own (.lst xs)) = true := by with_unfolding_all rfl
theorem kLst_d (xs : List D) : kLst (.d (.lst xs)) = true := by with_unfolding_all rfl
theorem oIdx_nat {g : Nat} {f : List Nat} (h : g ∈ f) : oIdx (.d (.lst (f.map eI))) [.d (.int (g : Int))] = some (.d (.int (f.idxOf g : Nat))) := by
  unfold oIdx
  show (if flatD (.int (g : Int)) && (f.map eI).all flatD then (idxD (.int (g : Int)) (f.map eI)).map (fun j => O.d (.int (j : Nat))) else none) = _
  rw [flat_nat, idx_nat h]
  with_unfolding_all rfl
theorem oIdx_natO {g : Nat} {f : List Nat} (h : g ∈ f) : oIdx (.own (.lst (f.map eI))) [.d (.int (g : Int))] = some (.d (.int (f.idxOf g : Nat))) := oIdx_nat h
end
end FR

namespace FR
open PySem PySem.Spec L2
/-- the law's def: its mirror answers True of every script -/
theorem law_end {K : PySem.W.Frag} {m : Fm} {n : Nat} (hm : ∀ ns : List Int, ns.length ≤ n → ∃ S', m [.d (.lk (ns.map .int))] = .ok (.d (.bl true)) S') {H : Hp} {a : Addr} {ns : List Int} (hl : ns.length ≤ n) (hS : SqL K H a (ns.map V.int)) (E : XK) :
    sp K (List.length (α := Str) ["script"]) m [.ref a] H (fun v _ => v = .bl true) E := by
  obtain ⟨S', e⟩ := hm ns hl
  refine ⟨rfl, H, [.d (.lk (ns.map .int))], ⟨Same.refl _, fun i r h => ?_, fun i j k k' b h1 => ?_, rfl⟩, ?_⟩
  · cases i with
    | zero => cases h; exact ⟨_, rfl, .lk hS (RVs.of_ints _)⟩
    | succ i => simp at h
  · cases i with
    | zero => cases h1
    | succ i => simp at h1
  · rw [e]
    intro v F' H' st rt
    cases rt
    rfl
end FR

namespace FR
open PySem PySem.Spec L2 RZ _root_.RT
/-! ### all, any of a list of truth values -/
@[simp] def boolsD : List D → Option (List Bool)
  | [] => some []
  | .bl b :: ds => (boolsD ds).map (b :: ·)
  | _ => none
theorem boolsD_eq : ∀ {ds : List D} {bs : List Bool}, boolsD ds = some bs → ds = bs.map D.bl
  | [], _, e => by cases e; rfl
  | .bl i :: ds, ns, e => by
    obtain ⟨ms, h, rfl⟩ := Option.map_eq_some_iff.mp (show (boolsD ds).map _ = _ from e)
    rw [List.map_cons, ← boolsD_eq h]
theorem boolsD_map : ∀ (bs : List Bool), boolsD (bs.map D.bl) = some bs
  | [] => rfl
  | n :: ns => by rw [List.map_cons, boolsD, boolsD_map ns] <;> rfl
theorem RVs.bools {K : PySem.W.Frag} {F : Hp} : ∀ {v : List V} {bs : List Bool}, RVs K F v (bs.map D.bl) → v = bs.map V.bl
  | _, [], .nil => rfl
  | _, n :: ns, .cons (.bl _) t => by rw [List.map_cons, RVs.bools t]
@[simp] def oBools (r : O) : Option (List Bool) := (oL r).bind boolsD
theorem oBools_ok {K : PySem.W.Frag} {F H : Hp} {v : V} {r : O} {bs : List Bool} (sm : Same F H) (r1 : RO K F H v r) (e : oBools r = some bs) : ∃ a, v = .ref a ∧ SqL K H a (bs.map V.bl) := by
  obtain ⟨xs, e1, e2⟩ := Option.bind_eq_some_iff.mp e
  obtain ⟨a, vs, rfl, h1, h2⟩ := r1.seqL sm e1
  have := boolsD_eq e2
  subst this
  rw [RVs.bools h2] at h1
  exact ⟨a, rfl, h1⟩
def oAll (r : O) : Option O := (oBools r).map fun bs => .d (.bl (bs.all id))
def oAny (r : O) : Option O := (oBools r).map fun bs => .d (.bl (bs.any id))
theorem oAll_ok {K : PySem.W.Frag} : Op1 K oAll (fun x H Q => rAll K [x] H Q) := by
  intro F H v r s Q sm r1 e q
  obtain ⟨ns, e1, rfl⟩ := Option.map_eq_some_iff.mp e
  obtain ⟨a, rfl, h⟩ := oBools_ok sm r1 e1
  exact ⟨a, ns, rfl, h, q _ F H (Grow.refl sm) (.bl _)⟩
theorem oAny_ok {K : PySem.W.Frag} : Op1 K oAny (fun x H Q => rAny K [x] H Q) := by
  intro F H v r s Q sm r1 e q
  obtain ⟨ns, e1, rfl⟩ := Option.map_eq_some_iff.mp e
  obtain ⟨a, rfl, h⟩ := oBools_ok sm r1 e1
  exact ⟨a, ns, rfl, h, q _ F H (Grow.refl sm) (.bl _)⟩
section
variable {X : Cx} {c : Ct} {e a b a2 : Expr} {es : List Expr} {f g : Mn A} {fs : List (Mn A)} {pos p : Pos} {tg : Expr}
theorem he_all (hK : c.K = X.K) (hc : X.calm = true) (hm : X.mg "all" = none) (hg : Gl X "all") (ha : PA X [e] (TAs c fs)) (he : starEach (e :: []) X.env = (false, eval e X.env) :: starEach [] X.env := by rfl) : PE X (.Call (.Name "all" p) [e] [] pos) (T c (callN (b1 oAll) fs)) := he_bi (cr_all hc) (OpN.b1 (hK ▸ oAll_ok)) hg hm (by decide +kernel) ha (he := he)
theorem he_any (hK : c.K = X.K) (hc : X.calm = true) (hm : X.mg "any" = none) (hg : Gl X "any") (ha : PA X [e] (TAs c fs)) (he : starEach (e :: []) X.env = (false, eval e X.env) :: starEach [] X.env := by rfl) : PE X (.Call (.Name "any" p) [e] [] pos) (T c (callN (b1 oAny) fs)) := he_bi (cr_any hc) (OpN.b1 (hK ▸ oAny_ok)) hg hm (by decide +kernel) ha (he := he)
/-! a << b -/
def shlOk (i j : Int) : Bool := decide (0 ≤ j ∧ (Builtin.Int.intBits i : Int) + j ≤ 2 ^ 27)
def aShl : O → O → Option O := i2 shlOk fun i j => .int (i * 2 ^ j.toNat)
theorem he_shl (ha : PE X a (T c f)) (hb : PE X b (T c g)) : PE X (.BinOp a .LShift b pos) (T c (op2 aShl f g)) := he_op op_shlW (i2_rI (fun i j h => (of_decide_eq_true (p := 0 ≤ j ∧ (Builtin.Int.intBits i : Int) + j ≤ 2 ^ 27) h : CShl i j)) fun i j F => .int _) ha hb
/-! range(i, j, step) -/
def rg3 : List O → Option (List D)
  | [.d (.int i), .d (.int j), .d (.int k)] => if k ≠ 0 ∧ k.natAbs < 1073741824 ∧ Builtin.Range.small i j k = true ∧ 0 ≤ Builtin.Range.rangeSize i j k then some ((List.range (Builtin.Range.rangeSize i j k).toNat).map fun n => .int (i + (n : Nat) * k)) else none
  | _ => none
theorem real_rangeC {K : PySem.W.Frag} {F : Hp} (lo k : Int) (n : Nat) : Real K (Itc lo k n) ((List.range n).map fun i => .int (lo + (i : Nat) * k)) F := fun F1 H1 m s => by
  refine ⟨fun i hi => by rw [List.length_map, List.length_range] at hi; exact hi, by show n ≤ _; simp, fun i d x H' e y => ?_⟩
  obtain ⟨rfl, rfl⟩ := y
  refine ⟨F1, Grow.refl s, ?_⟩
  rw [List.getElem?_map] at e
  obtain ⟨j, hj, rfl⟩ := Option.map_eq_some_iff.mp e
  have hjn : i < n := by
    have := (List.getElem?_eq_some_iff.mp hj).1
    simpa using this
  rw [List.getElem?_range hjn] at hj
  cases hj
  exact .int _
theorem hi_range3 (hg : Gl X "range") (hm : X.mg "range" = none) (ha : PA X [a, b, a2] (TAs c fs)) (hs : starEach [a, b, a2] X.env = (false, eval a X.env) :: starEach [b, a2] X.env := by rfl) (hpl : (backTo pos (starEach [b, a2] X.env)).any (·.1) = false := by rfl) : PI X tg (.Call (.Name "range" p) [a, b, a2] [] pos) (TIt c (rangeS rg3 fs)) :=
  PI.mono (pi_range3 hg hm ha hs hpl) fun σ H Z q => G.imp (t_views (α := Unit) q) fun vs H1 ⟨F1, S1, os, ds, R1, ro, ek, h⟩ => by
    unfold rg3 at ek
    split at ek
    · split at ek
      · rename_i i j k hj
        cases ek
        obtain ⟨h1, h2, h3, h4⟩ := hj
        cases ro with
        | cons r1 r2 =>
          cases r2 with
          | cons r2 r3 =>
            cases r3 with
            | cons r3 r4 =>
              cases r4
              rw [RO.int r1, RO.int r2, RO.int r3]
              exact ⟨i, j, k, _, rfl, ⟨h1, h2, h3, by omega⟩, h _ (real_rangeC i k _)⟩
      · cases ek
    · cases ek
/-! reversed(x) -/
def revD : D → Option (List D)
  | .tup xs => some xs.reverse
  | .kt xs => some xs.reverse
  | .lst xs => some xs.reverse
  | .lk xs => some xs.reverse
  | _ => none
def srcV (f : Mn A) : Mn (List D) := bnd f fun a => bnd (toD a) fun d => liftL (revD d)
theorem hi_rev (hK : c.K = X.K) (hg : Gl X "reversed") (hm : X.mg "reversed" = none) (he : PE X e (T c f)) (hs : starEach [e] X.env = (false, eval e X.env) :: starEach [] X.env := by rfl) : PI X tg (.Call (.Name "reversed" p) [e] [] pos) (TIt c (srcV f)) :=
  PI.mono (pi_revA hg hm he hs) fun σ H Z q => by
    obtain ⟨F0, S0, R0, q⟩ := q
    refine G.imp (Gat.bind (RR := RA c.K) (Step.refl R0) q) fun v H1 ⟨a, F1, S1, s1, _, ra, g1⟩ => ?_
    simp only [bnd] at g1
    cases ed : toD a S1 with
    | bad => rw [ed] at g1; exact g1.elim
    | exc x S' => exact absurd ed toD_exc
    | ok d S2 =>
      rw [ed] at g1
      simp only at g1
      obtain ⟨F2, s2, m2, rv⟩ := toD_at s1 ra ed
      obtain ⟨ds, er, k⟩ := gat_liftL s2 g1
      cases d with
      | tup xs => cases er; obtain ⟨a, vs, rfl, h1, h2⟩ := RV.tup_inv rv; exact ⟨a, vs, rfl, .inr ⟨hK ▸ .inl (.inl (s2.rel.sub _ _ h1)), hK ▸ k _ (real_revT (.inl (.inl h1)) h2)⟩⟩
      | kt xs => cases er; obtain ⟨a, vs, rfl, h1, h2⟩ := RV.kt_inv rv; exact ⟨a, vs, rfl, .inr ⟨hK ▸ Same.seqT s2.rel.sub h1, hK ▸ k _ (real_revT h1 h2)⟩⟩
      | lst xs => cases er; obtain ⟨a, vs, rfl, h1, h2⟩ := RV.lst_inv rv; exact ⟨a, vs, rfl, .inl ⟨hK ▸ .inl (.inl (s2.rel.sub _ _ h1)), hK ▸ k _ (real_revL (.inl (.inl h1)) h2)⟩⟩
      | lk xs => cases er; obtain ⟨a, vs, rfl, h1, h2⟩ := RV.lk_inv rv; exact ⟨a, vs, rfl, .inl ⟨hK ▸ s2.rel.sub.seq h1, hK ▸ k _ (real_revL h1 h2)⟩⟩
      | _ => cases er
/-! a < b < c -/
def chn (k k' : O → O → Option O) (f g h : Mn A) : Mn A := bnd f fun a => bnd g fun b S => match (view a S).bind fun x => (view b S).bind (k x) with
  | some (.d (.bl true)) => bnd h (fun d S' => lift ((view b S').bind fun y => (view d S').bind (k' y)) S') S
  | some (.d (.bl false)) => .ok (.v (.d (.bl false))) S
  | _ => .bad
theorem t_chain {k k' : O → O → Option O} {r r' : R2} {h : Mn A} (hk : Op2 c.K k r) (hk' : Op2 c.K k' r') (σ : St) (H : Hp) (Q : VK) (q : FR.T c (chn k k' f g h) σ H Q) : tChain r r' (FR.T c f) (FR.T c g) (FR.T c h) σ H Q := by
  obtain ⟨F0, S0, R0, q⟩ := q
  refine G.imp (Gat.bind (RR := RA c.K) (Step.refl R0) q) fun v H1 ⟨a, F1, S1, s1, _, ra, g1⟩ => ?_
  refine G.imp (Gat.bind (RR := RA c.K) s1 g1) fun w H2 ⟨b, F2, S2, s2, s12, rb, g2⟩ => ?_
  split at g2
  · rename_i et
    obtain ⟨x, ex, et⟩ := Option.bind_eq_some_iff.mp et
    obtain ⟨y, ey, et⟩ := Option.bind_eq_some_iff.mp et
    refine hk F2 H2 v w x y _ _ s2.rel.sub ((ra.step s12).ro s2.rel ex) (rb.ro s2.rel ey) et fun z F3 H3 gr rn => ?_
    cases rn
    refine ⟨true, rfl, ?_⟩
    rw [if_pos rfl]
    have s3 := s2.trans (gr.step (fx := c.fx) (σ := σ) s2.rel)
    refine G.imp (Gat.bind (RR := RA c.K) s3 g2) fun u H4 ⟨d, F4, S4, s4, s34, rd, g4⟩ => ?_
    obtain ⟨t, et2, k2⟩ := gat_lift s4 g4
    obtain ⟨y', ey', et2⟩ := Option.bind_eq_some_iff.mp et2
    obtain ⟨z', ez', et2⟩ := Option.bind_eq_some_iff.mp et2
    exact hk' F4 H4 w u y' z' t Q s4.rel.sub ((rb.step ((gr.step (fx := c.fx) (σ := σ) s2.rel).trans s34)).ro s4.rel ey') (rd.ro s4.rel ez') et2 k2
  · rename_i et
    obtain ⟨x, ex, et⟩ := Option.bind_eq_some_iff.mp et
    obtain ⟨y, ey, et⟩ := Option.bind_eq_some_iff.mp et
    refine hk F2 H2 v w x y _ _ s2.rel.sub ((ra.step s12).ro s2.rel ex) (rb.ro s2.rel ey) et fun z F3 H3 gr rn => ?_
    cases rn
    refine ⟨false, rfl, ?_⟩
    rw [if_neg (by simp)]
    exact g2 _ F3 H3 (s2.trans (gr.step (fx := c.fx) (σ := σ) s2.rel)) (.bl false)
  · exact g2.elim
/-- an order or an equality as a link of a chain -/
structure Lnk (X : Cx) (c : Ct) (op : CmpOp) (k : O → O → Option O) where
  r : R2
  o : OpR X (compareOp op) r
  k : Op2 c.K k r
def lk_lt : Lnk X c .Lt cLt := ⟨_, op_lt.or op_lt_str, (i2_rI0 fun i j F => .bl _).or s2_ok⟩
def lk_le : Lnk X c .LtE cLe := ⟨_, op_le.or op_le_str, (i2_rI0 fun i j F => .bl _).or s2_ok⟩
def lk_gt : Lnk X c .Gt cGt := ⟨_, op_gt.or op_gt_str, (i2_rI0 fun i j F => .bl _).or s2_ok⟩
def lk_ge : Lnk X c .GtE cGe := ⟨_, op_ge.or op_ge_str, (i2_rI0 fun i j F => .bl _).or s2_ok⟩
def lk_eq (hK : c.K = X.K) (hu : X.A.units + 64 < cLine) : Lnk X c .Eq cEq := ⟨_, op_eq.or (op_eqD hu), hK ▸ cEq_ok⟩
def lk_ne (hK : c.K = X.K) (hu : X.A.units + 64 < cLine) : Lnk X c .NotEq cNe := ⟨_, op_ne.or (op_neD hu), hK ▸ cNe_ok⟩
theorem he_chain {op op' : CmpOp} {k k' : O → O → Option O} {h : Mn A} (l : Lnk X c op k) (l' : Lnk X c op' k') (ha : PE X a (T c f)) (hb : PE X b (T c g)) (hc : PE X a2 (T c h)) (hm : lastMarks [op, op'] [b, a2] = false := by with_unfolding_all rfl) : PE X (.Compare a [op, op'] [b, a2] pos) (T c (chn k k' f g h)) :=
  PE.mono (pe_chain l.o l'.o ha hb hc hm) (t_chain l.k l'.k)
theorem ht_chain {op op' : CmpOp} {k k' : O → O → Option O} {h : Mn A} (l : Lnk X c op k) (l' : Lnk X c op' k') (ha : PE X a (T c f)) (hb : PE X b (T c g)) (hc : PE X a2 (T c h)) (hm : lastMarks [op, op'] [b, a2] = false := by with_unfolding_all rfl) : PT X (.Compare a [op, op'] [b, a2] pos) (TB c (tsb (chn k k' f g h))) :=
  PT.mono (pt_chain l.o l'.o ha hb hc hm) fun σ H Q q => t_chain l.k l'.k σ H _ (t_tsb σ H Q q)
/-! x[::-1] of a list -/
def oRevL (r : O) : Option O := (oL r).map fun xs => .own (.lst xs.reverse)
theorem RVs.rev2 {K : PySem.W.Frag} {F : Hp} : ∀ {vs : List V} {ds : List D}, RVs K F vs ds → RVs K F vs.reverse ds.reverse
  | _, _, .nil => .nil
  | _, _, .cons h t => by
    rw [List.reverse_cons, List.reverse_cons]
    exact (RVs.rev2 t).append (.cons h .nil)
theorem oRevL_ok {K : PySem.W.Frag} : Op1 K oRevL (fun x H Q => ∃ (a : Addr) (xs : List V), x = .ref a ∧ SqL K H a xs ∧ ∀ p, H p = none → Q (.ref p) (upd H p (.lst xs.reverse))) := by
  intro F H v r s Q sm r1 e q
  obtain ⟨xs, hx, rfl⟩ := Option.map_eq_some_iff.mp e
  obtain ⟨a, vs, rfl, h1, h2⟩ := r1.seqL sm hx
  exact ⟨a, vs, rfl, h1, new_list sm (RVs.rev2 h2) q⟩
theorem he_revS {k : Nat} {p1 p2 p3 : Pos} (hK : c.K = X.K) (he : PE X e (T c f)) : PE X (.Subscript e (.Slice none none (some (.UnaryOp .USub (.Constant (.int 1) k p1) p2)) p3) pos) (T c (op1 oRevL f)) :=
  PE.mono (pe_revL he) fun σ H Q q => hK ▸ T_op1 oRevL_ok σ H Q q
end
end FR

namespace FR
open PySem PySem.Spec L2
/-! ### rules for RMore's readings -/
section
variable {S : Sl}
theorem oAll_l (xs : List D) : oAll (.own (.lst xs)) = (boolsD xs).map fun bs => .d (.bl (bs.all id)) := rfl
theorem oAny_l (xs : List D) : oAny (.own (.lst xs)) = (boolsD xs).map fun bs => .d (.bl (bs.any id)) := rfl
theorem aShl_ii (i j : Int) : aShl (.d (.int i)) (.d (.int j)) = if shlOk i j = true then some (.d (.int (i * 2 ^ j.toNat))) else none := rfl
theorem rg3_i (i j k : Int) : rg3 [.d (.int i), .d (.int j), .d (.int k)] = if k ≠ 0 ∧ k.natAbs < 1073741824 ∧ Builtin.Range.small i j k = true ∧ 0 ≤ Builtin.Range.rangeSize i j k then some ((List.range (Builtin.Range.rangeSize i j k).toNat).map fun n => .int (i + (n : Nat) * k)) else none := rfl
theorem revD_tup (xs : List D) : revD (.tup xs) = some xs.reverse := rfl
theorem revD_lst (xs : List D) : revD (.lst xs) = some xs.reverse := rfl
theorem revD_lk (xs : List D) : revD (.lk xs) = some xs.reverse := rfl
def svA (Q : List D → Sl → Prop) (d : D) (S : Sl) : Prop := lD Q S (revD d)
def sv0 (Q : List D → Sl → Prop) (a : A) (S : Sl) : Prop := wp (toD a) S (svA Q)
theorem wp_srcV (f : Mn A) (Q : List D → Sl → Prop) : wp (srcV f) S Q = wp f S (sv0 Q) := by
  unfold srcV
  rw [wp_bnd]
  refine congrArg _ (funext fun a => funext fun S1 => ?_)
  rw [bK_eq, wp_bnd]
  refine congrArg _ (funext fun d => funext fun S2 => ?_)
  rw [bK_eq]
  with_unfolding_all exact wp_liftL _ _
theorem sv0_eq (Q : List D → Sl → Prop) (a : A) : sv0 Q a S = wp (toD a) S (svA Q) := rfl
theorem svA_eq (Q : List D → Sl → Prop) (d : D) : svA Q d S = lD Q S (revD d) := rfl
/-! chains -/
def chE (k' : O → O → Option O) (b : A) (Q : A → Sl → Prop) (d : A) (S : Sl) : Prop := lK Q S (vb (view b S) (view d S) k')
def chK (k' : O → O → Option O) (h : Mn A) (b : A) (Q : A → Sl → Prop) (S : Sl) : Option O → Prop
  | some (.d (.bl t)) => cnd (wpS h (chE k' b Q)) (Q (.v (.d (.bl false)))) t S
  | _ => False
def chB (k k' : O → O → Option O) (h : Mn A) (a : A) (Q : A → Sl → Prop) (b : A) (S : Sl) : Prop := chK k' h b Q S (vb (view a S) (view b S) k)
def chA (k k' : O → O → Option O) (g h : Mn A) (Q : A → Sl → Prop) (a : A) (S : Sl) : Prop := wp g S (chB k k' h a Q)
theorem wp_chn (k k' : O → O → Option O) (f g h : Mn A) (Q : A → Sl → Prop) : wp (chn k k' f g h) S Q = wp f S (chA k k' g h Q) := by
  unfold chn
  rw [wp_bnd]
  refine congrArg _ (funext fun a => funext fun S1 => ?_)
  rw [bK_eq, wp_bnd]
  refine congrArg _ (funext fun b => funext fun S2 => ?_)
  unfold bK chB
  have e : ∀ z : Option O, wp (fun S => match z with
      | some (.d (.bl true)) => bnd h (fun d S' => lift ((view b S').bind fun y => (view d S').bind (k' y)) S') S
      | some (.d (.bl false)) => .ok (.v (.d (.bl false))) S
      | _ => .bad) S2 Q = chK k' h b Q S2 z := fun z => by
    rcases z with _ | x | c
    · unfold wp; rfl
    · cases x with
      | bl t =>
        cases t with
        | false => unfold wp; rfl
        | true =>
          show wp (bnd h _) S2 Q = wp h S2 (chE k' b Q)
          rw [wp_bnd]
          refine congrArg _ (funext fun d => funext fun S3 => ?_)
          with_unfolding_all exact wp_lift _ _
      | _ => unfold wp; rfl
    · unfold wp; rfl
  with_unfolding_all exact e (vb (view a S2) (view b S2) k)
theorem chA_eq (k k' : O → O → Option O) (g h : Mn A) (Q : A → Sl → Prop) (a : A) : chA k k' g h Q a S = wp g S (chB k k' h a Q) := rfl
theorem chB_eq (k k' : O → O → Option O) (h : Mn A) (a : A) (Q : A → Sl → Prop) (b : A) : chB k k' h a Q b S = chK k' h b Q S (vb (view a S) (view b S) k) := rfl
theorem chK_b (k' : O → O → Option O) (h : Mn A) (b : A) (Q : A → Sl → Prop) (t : Bool) : chK k' h b Q S (some (.d (.bl t))) = cnd (wpS h (chE k' b Q)) (Q (.v (.d (.bl false)))) t S := rfl
theorem chE_eq (k' : O → O → Option O) (b : A) (Q : A → Sl → Prop) (d : A) : chE k' b Q d S = lK Q S (vb (view b S) (view d S) k') := rfl
end
/-! slices -/
section
variable {S : Sl}
def slH (a : A) (lo : Option Int) (Q : A → Sl → Prop) (hi : Option Int) (S : Sl) : Prop := lK Q S ((view a S).bind fun x => sl3 x lo hi)
def slL (h : Mn (Option Int)) (a : A) (Q : A → Sl → Prop) (lo : Option Int) (S : Sl) : Prop := wp h S (slH a lo Q)
def slA (l h : Mn (Option Int)) (Q : A → Sl → Prop) (a : A) (S : Sl) : Prop := wp l S (slL h a Q)
theorem wp_slc (f : Mn A) (l h : Mn (Option Int)) (Q : A → Sl → Prop) : wp (slc f l h) S Q = wp f S (slA l h Q) := by
  unfold slc
  rw [wp_bnd]
  refine congrArg _ (funext fun a => funext fun S1 => ?_)
  rw [bK_eq, wp_bnd]
  refine congrArg _ (funext fun lo => funext fun S2 => ?_)
  rw [bK_eq, wp_bnd]
  refine congrArg _ (funext fun hi => funext fun S3 => ?_)
  with_unfolding_all exact wp_lift _ _
theorem slA_eq (l h : Mn (Option Int)) (Q : A → Sl → Prop) (a : A) : slA l h Q a S = wp l S (slL h a Q) := rfl
theorem slL_eq (h : Mn (Option Int)) (a : A) (Q : A → Sl → Prop) (lo : Option Int) : slL h a Q lo S = wp h S (slH a lo Q) := rfl
theorem slH_eq (a : A) (lo : Option Int) (Q : A → Sl → Prop) (hi : Option Int) : slH a lo Q hi S = lK Q S ((view a S).bind fun x => sl3 x lo hi) := rfl
theorem wp_nopart (Q : Option Int → Sl → Prop) : wp nopart S Q = Q none S := by with_unfolding_all rfl
def ptV (Q : Option Int → Sl → Prop) (S : Sl) : Option O → Prop
  | some (.d (.int i)) => Q (some i) S
  | _ => False
def ptK (Q : Option Int → Sl → Prop) (a : A) (S : Sl) : Prop := ptV Q S (view a S)
theorem wp_part (f : Mn A) (Q : Option Int → Sl → Prop) : wp (part f) S Q = wp f S (ptK Q) := by
  unfold part
  rw [wp_bnd]
  refine congrArg _ (funext fun a => funext fun S1 => ?_)
  rw [bK_eq]
  have e : ∀ z : Option O, wp (liftI z) S1 Q = ptV Q S1 z := fun z => by
    unfold wp
    rcases z with _ | x | c
    · rfl
    · cases x <;> rfl
    · rfl
  with_unfolding_all exact e (view a S1)
theorem ptK_eq (Q : Option Int → Sl → Prop) (a : A) : ptK Q a S = ptV Q S (view a S) := rfl
theorem ptV_i (Q : Option Int → Sl → Prop) (i : Int) : ptV Q S (some (.d (.int i))) = Q (some i) S := rfl
end
theorem sl3_t (xs : List D) (lo hi : Option Int) : sl3 (.d (.tup xs)) lo hi = some (.d (.tup (cutD xs lo hi))) := rfl
theorem sl3_l (xs : List D) (lo hi : Option Int) : sl3 (.d (.lst xs)) lo hi = some (.own (.lst (cutD xs lo hi))) := rfl
theorem sl3_k (xs : List D) (lo hi : Option Int) : sl3 (.d (.lk xs)) lo hi = some (.own (.lst (cutD xs lo hi))) := rfl
theorem sl3_o (xs : List D) (lo hi : Option Int) : sl3 (.own (.lst xs)) lo hi = some (.own (.lst (cutD xs lo hi))) := rfl
theorem cutD_map {α : Type} (enc : α → D) (xs : List α) (lo hi : Option Int) : cutD (xs.map enc) lo hi = ((xs.drop (HT.sIx xs.length 0 lo)).take (HT.sIx xs.length xs.length hi - HT.sIx xs.length 0 lo)).map enc := by
  unfold cutD
  rw [List.length_map, ← List.map_drop, ← List.map_take]
/-- a cut behind a statement -/
theorem wp_cut {f g : Mn Out} {S : Sl} {Q : Out → Sl → Prop} (I : Sl → Prop) (h1 : wp f S fun o S => o = .nx ∧ I S) (h2 : ∀ S, I S → wp g S Q) : wp (seqS f g) S Q := by
  rw [wp_seqS]
  refine wp_mono h1 fun o S' ⟨e, h⟩ => ?_
  subst e
  exact h2 S' h
theorem fdiv_nn {i j : Int} (hi : 0 ≤ i) (hj : 0 < j) : 0 ≤ i.fdiv j := by
  rw [Int.fdiv_eq_ediv_of_nonneg _ (by omega)]
  exact Int.ediv_nonneg hi (by omega)
end FR

namespace FR
open PySem PySem.Spec L2
/-! ### sums, greatest, least -/
theorem oInts_own (ns : List Int) : oInts (.own (.lst (ns.map D.int))) = some ns := by
  unfold oInts
  exact intsD_map ns
theorem oInts_lst (ns : List Int) : oInts (.d (.lst (ns.map D.int))) = some ns := by
  unfold oInts
  exact intsD_map ns
theorem oInts_tup (ns : List Int) : oInts (.d (.tup (ns.map D.int))) = some ns := by
  unfold oInts
  exact intsD_map ns
theorem oSum_own (ns : List Int) : oSum (.own (.lst (ns.map D.int))) = some (.d (.int ns.sum)) := by
  unfold oSum
  rw [oInts_own]
  rfl
theorem oMax_own (n : Int) (ns : List Int) : oMax (.own (.lst ((n :: ns).map D.int))) = some (.d (.int (topI n ns))) := by
  unfold oMax
  rw [oInts_own]
theorem oMin_own (n : Int) (ns : List Int) : oMin (.own (.lst ((n :: ns).map D.int))) = some (.d (.int (lowI n ns))) := by
  unfold oMin
  rw [oInts_own]
theorem oSum_tup (ns : List Int) : oSum (.d (.tup (ns.map D.int))) = some (.d (.int ns.sum)) := by
  unfold oSum
  rw [oInts_tup] <;> rfl
theorem oMin_tup (n : Int) (ns : List Int) : oMin (.d (.tup ((n :: ns).map D.int))) = some (.d (.int (lowI n ns))) := by
  unfold oMin
  rw [oInts_tup]
theorem oMax_tup (n : Int) (ns : List Int) : oMax (.d (.tup ((n :: ns).map D.int))) = some (.d (.int (topI n ns))) := by
  unfold oMax
  rw [oInts_tup]
/-- the greatest, the least of a list, 0 of none -/
def maxL : List Int → Int
  | [] => 0
  | n :: ns => topI n ns
def minL : List Int → Int
  | [] => 0
  | n :: ns => lowI n ns
theorem oMax_L {ns : List Int} (h : ns ≠ []) : oMax (.own (.lst (ns.map D.int))) = some (.d (.int (maxL ns))) := by
  cases ns with
  | nil => exact absurd rfl h
  | cons n ns => exact oMax_own n ns
theorem oMin_L {ns : List Int} (h : ns ≠ []) : oMin (.own (.lst (ns.map D.int))) = some (.d (.int (minL ns))) := by
  cases ns with
  | nil => exact absurd rfl h
  | cons n ns => exact oMin_own n ns
theorem oMin_T {ns : List Int} (h : ns ≠ []) : oMin (.d (.tup (ns.map D.int))) = some (.d (.int (minL ns))) := by
  cases ns with
  | nil => exact absurd rfl h
  | cons n ns => exact oMin_tup n ns
theorem oMax_T {ns : List Int} (h : ns ≠ []) : oMax (.d (.tup (ns.map D.int))) = some (.d (.int (maxL ns))) := by
  cases ns with
  | nil => exact absurd rfl h
  | cons n ns => exact oMax_tup n ns
theorem maxL_spec {ns : List Int} (h : ns ≠ []) : maxL ns ∈ ns ∧ ∀ y ∈ ns, y ≤ maxL ns := by
  cases ns with
  | nil => exact absurd rfl h
  | cons n ns => exact topI_spec ns n
theorem minL_spec {ns : List Int} (h : ns ≠ []) : minL ns ∈ ns ∧ ∀ y ∈ ns, minL ns ≤ y := by
  cases ns with
  | nil => exact absurd rfl h
  | cons n ns => exact lowI_spec ns n
theorem tru_lst (xs : List D) : tru (.own (.lst xs)) = some (!xs.isEmpty) := rfl
theorem tru_flst (xs : List D) : tru (.d (.lst xs)) = some (!xs.isEmpty) := rfl
theorem tru_int (i : Int) : tru (.d (.int i)) = some (i != 0) := rfl
theorem tru_tup (xs : List D) : tru (.d (.tup xs)) = some (!xs.isEmpty) := rfl
theorem tru_dk (xs : List (Key × D)) : tru (.own (.dk xs)) = some (!xs.isEmpty) := rfl
theorem oMax2_ii (i j : Int) : oMax2 (.d (.int i)) (.d (.int j)) = some (.d (.int (if j > i then j else i))) := rfl
theorem oMin2_ii (i j : Int) : oMin2 (.d (.int i)) (.d (.int j)) = some (.d (.int (if j < i then j else i))) := rfl
/-! ### is -/
theorem cIs_non (x : D) : cIs (.d x) (.d .non) = some (.d (.bl (match x with | .non => true | _ => false))) := rfl
theorem cIsnt_non (x : D) : cIsnt (.d x) (.d .non) = some (.d (.bl (match x with | .non => false | _ => true))) := rfl
theorem cIs_bl (x : D) (b : Bool) : cIs (.d x) (.d (.bl b)) = some (.d (.bl (kBl (.d x) b))) := by cases x <;> rfl
theorem cIsnt_bl (x : D) (b : Bool) : cIsnt (.d x) (.d (.bl b)) = some (.d (.bl (!kBl (.d x) b))) := by cases x <;> rfl
/-! ### x.pop() -/
section
variable {S : Sl}
def ppB (i : Nat) (Q : A → Sl → Prop) (S : Sl) (xs : List D) : Option D → Prop
  | some d => Q (.v (.d d)) (S.set i (some (.own (.lst xs.dropLast))))
  | none => False
def ppA (i : Nat) (Q : A → Sl → Prop) (S : Sl) : Option (List D) → Prop
  | some xs => ppB i Q S xs xs[xs.length - 1]?
  | none => False
theorem wp_popE (i : Nat) (Q : A → Sl → Prop) : wp (popE i) S Q = ppA i Q S (ownL S i) := by
  have key : ∀ z : Option (List D), z = ownL S i → wp (popE i) S Q = ppA i Q S z := fun z hz => by
    cases z with
    | none =>
      have e : popE i S = .bad := by unfold popE; rw [← hz]
      unfold wp; rw [e]; with_unfolding_all rfl
    | some xs =>
      show _ = ppB i Q S xs xs[xs.length - 1]?
      cases hx : xs[xs.length - 1]? with
      | none =>
        have e : popE i S = .bad := by
          unfold popE
          rw [← hz]
          dsimp only
          rw [hx]
        unfold wp; rw [e]; with_unfolding_all rfl
      | some d =>
        have e : popE i S = .ok (.v (.d d)) (S.set i (some (.own (.lst xs.dropLast)))) := by
          unfold popE
          rw [← hz]
          dsimp only
          rw [hx]
        unfold wp; rw [e]; with_unfolding_all rfl
  exact key _ rfl
theorem ppA_some (i : Nat) (Q : A → Sl → Prop) (xs : List D) : ppA i Q S (some xs) = ppB i Q S xs xs[xs.length - 1]? := rfl
theorem ppB_some (i : Nat) (Q : A → Sl → Prop) (xs : List D) (d : D) : ppB i Q S xs (some d) = Q (.v (.d d)) (S.set i (some (.own (.lst xs.dropLast)))) := rfl
end
/-! ### dicts with keys of whole numbers -/
theorem cIn_dk {neg : Bool} {x : D} {k : Key} {kvs : List (Key × D)} (h : keyOf x = some k) : cIn neg (.d x) (.own (.dk kvs)) = some (.d (.bl (if neg then !(valD kvs k).isSome else (valD kvs k).isSome))) := by
  have e : inDc neg (.d x) (.own (.dk kvs)) = some (.d (.bl (if neg then !(valD kvs k).isSome else (valD kvs k).isSome))) := by
    unfold inDc dget
    dsimp only
    simp only [h]
    rfl
  have e1 : inSq neg (.d x) (.own (.dk kvs)) = none := by cases x <;> rfl
  have e2 : inSg neg (.d x) (.own (.dk kvs)) = none := by cases x <;> rfl
  show (match (match inSq neg (.d x) (.own (.dk kvs)) with | some r => some r | none => inSg neg (.d x) (.own (.dk kvs))) with | some r => some r | none => inDc neg (.d x) (.own (.dk kvs))) = _
  rw [e1, e2, e]
theorem putD_new {κ : Type} [DecidableEq κ] {kvs : List (κ × D)} {k : κ} {v : D} (h : ∀ p ∈ kvs, p.1 ≠ k) : putD kvs k v = kvs ++ [(k, v)] := by
  unfold putD
  rw [if_neg]
  intro z
  obtain ⟨p, hp, e⟩ := List.any_eq_true.mp z
  exact h p hp (of_decide_eq_true e)
/-- numbers as keys, all with the same value -/
def setD (v : D) (o : List Nat) : List (Key × D) := o.map fun i : Nat => (.inl (i : Int), v)
theorem valD_set (v : D) (g : Nat) : ∀ o : List Nat, valD (setD v o) (.inl (g : Int)) = if g ∈ o then some v else none
  | [] => rfl
  | x :: o => by
    have ih := valD_set v g o
    unfold valD setD at ih ⊢
    rw [List.map_cons, List.find?_cons]
    by_cases h : x = g
    · subst h; simp
    · have h1 : ¬ ((Sum.inl (x : Int) : Key) = Sum.inl (g : Int)) := fun z => h (by have := Sum.inl.inj z; omega)
      have h2 : ¬ g = x := fun z => h z.symm
      simp only [h1, decide_false, List.mem_cons, h2, false_or]
      exact ih
theorem valD_setS (v : D) (g : Nat) (o : List Nat) : (valD (setD v o) (.inl (g : Int))).isSome = decide (g ∈ o) := by
  rw [valD_set]
  by_cases h : g ∈ o <;> simp [h]
theorem putD_set (v : D) (g : Nat) (o : List Nat) (h : g ∉ o) : putD (setD v o) (.inl (g : Int)) v = setD v (o ++ [g]) := by
  rw [putD_new fun p hp => ?_]
  · unfold setD
    rw [List.map_append]
    rfl
  · obtain ⟨x, hx, rfl⟩ := List.mem_map.mp hp
    exact fun z => h (by have : (x : Int) = (g : Int) := Sum.inl.inj z
                         have : x = g := by omega
                         exact this ▸ hx)
theorem cIn_setT (v : D) (g : Nat) (o : List Nat) : cIn true (.d (.int (g : Int))) (.own (.dk (setD v o))) = some (.d (.bl (!decide (g ∈ o)))) := by
  rw [cIn_dk (keyOf_int _), valD_setS] <;> rfl
theorem cIn_setF (v : D) (g : Nat) (o : List Nat) : cIn false (.d (.int (g : Int))) (.own (.dk (setD v o))) = some (.d (.bl (decide (g ∈ o)))) := by
  rw [cIn_dk (keyOf_int _), valD_setS] <;> rfl
/-! ### x.pop(e) -/
section
variable {S : Sl}
def paX (i : Nat) (Q : A → Sl → Prop) (S : Sl) (xs : List D) (n : Nat) : Option D → Prop
  | some d => Q (.v (.d d)) (S.set i (some (.own (.lst (xs.eraseIdx n)))))
  | none => False
def paN (i : Nat) (Q : A → Sl → Prop) (S : Sl) (xs : List D) : Option Nat → Prop
  | some n => paX i Q S xs n xs[n]?
  | none => False
def paI (i : Nat) (j : Int) (Q : A → Sl → Prop) (S : Sl) : Option (List D) → Prop
  | some xs => i62 j = true ∧ paN i Q S xs (seqIndex? j xs.length)
  | none => False
def paV (i : Nat) (Q : A → Sl → Prop) (S : Sl) : Option O → Prop
  | some (.d (.int j)) => paI i j Q S (ownL S i)
  | _ => False
def pa0 (i : Nat) (Q : A → Sl → Prop) (a : A) (S : Sl) : Prop := paV i Q S (view a S)
theorem wp_popAt (i : Nat) (f : Mn A) (Q : A → Sl → Prop) : wp (popAt i f) S Q = ((ownL S i).isSome = true ∧ wp f S (pa0 i Q)) := by
  cases e : ownL S i with
  | none =>
    have e2 : popAt i f S = .bad := by unfold popAt; rw [e]
    unfold wp; rw [e2]; simp
  | some xs =>
    let g : A → Mn A := fun a S => match view a S with
      | some (.d (.int j)) => match ownL S i with
        | some xs => if i62 j then (match seqIndex? j xs.length with
          | some n => match xs[n]? with
            | some d => .ok (.v (.d d)) (S.set i (some (.own (.lst (xs.eraseIdx n)))))
            | none => .bad
          | none => .bad) else .bad
        | none => .bad
      | _ => .bad
    have e2 : popAt i f S = bnd f g S := by unfold popAt; rw [e] <;> rfl
    have e3 : wp (popAt i f) S Q = wp (bnd f g) S Q := by unfold wp; rw [e2]
    rw [e3, wp_bnd]
    simp only [Option.isSome_some, true_and]
    refine congrArg _ (funext fun a => funext fun S1 => ?_)
    rw [bK_eq]
    unfold pa0
    have key : ∀ z, z = view a S1 → wp (g a) S1 Q = paV i Q S1 z := fun z hz => by
      have bad : g a S1 = .bad → wp (g a) S1 Q = False := fun e => by unfold wp; rw [e]
      rcases z with _ | x | c
      · rw [bad (by show (match view a S1 with | _ => _) = _; rw [← hz])] <;> rfl
      · cases x with
        | int j =>
          show _ = paI i j Q S1 (ownL S1 i)
          cases h1 : ownL S1 i with
          | none => rw [bad (by show (match view a S1 with | _ => _) = _; rw [← hz]; dsimp only; rw [h1])] <;> rfl
          | some xs =>
            show _ = (i62 j = true ∧ paN i Q S1 xs (seqIndex? j xs.length))
            cases h2 : i62 j with
            | false => rw [bad (by show (match view a S1 with | _ => _) = _; rw [← hz]; dsimp only; rw [h1]; dsimp only; rw [h2] <;> rfl)]; simp
            | true =>
              simp only [true_and]
              cases h3 : seqIndex? j xs.length with
              | none => rw [bad (by show (match view a S1 with | _ => _) = _; rw [← hz]; dsimp only; rw [h1]; dsimp only; rw [h2, h3] <;> rfl)]; rfl
              | some n =>
                show _ = paX i Q S1 xs n xs[n]?
                cases h4 : xs[n]? with
                | none => rw [bad (by show (match view a S1 with | _ => _) = _; rw [← hz]; dsimp only; rw [h1]; dsimp only; rw [h2, h3]; dsimp only; rw [h4] <;> rfl)]; rfl
                | some d =>
                  have ok : g a S1 = .ok (.v (.d d)) (S1.set i (some (.own (.lst (xs.eraseIdx n))))) := by show (match view a S1 with | _ => _) = _; rw [← hz]; dsimp only; rw [h1]; dsimp only; rw [h2, h3]; dsimp only; rw [h4] <;> rfl
                  unfold wp; rw [ok] <;> rfl
        | _ => rw [bad (by show (match view a S1 with | _ => _) = _; rw [← hz])] <;> rfl
      · rw [bad (by show (match view a S1 with | _ => _) = _; rw [← hz])] <;> rfl
    exact key _ rfl
theorem pa0_eq (i : Nat) (Q : A → Sl → Prop) (a : A) : pa0 i Q a S = paV i Q S (view a S) := rfl
theorem paV_i (i : Nat) (Q : A → Sl → Prop) (j : Int) : paV i Q S (some (.d (.int j))) = paI i j Q S (ownL S i) := rfl
theorem paI_some (i : Nat) (j : Int) (Q : A → Sl → Prop) (xs : List D) : paI i j Q S (some xs) = (i62 j = true ∧ paN i Q S xs (seqIndex? j xs.length)) := rfl
theorem paN_some (i : Nat) (Q : A → Sl → Prop) (xs : List D) (n : Nat) : paN i Q S xs (some n) = paX i Q S xs n xs[n]? := rfl
theorem paX_some (i : Nat) (Q : A → Sl → Prop) (xs : List D) (n : Nat) (d : D) : paX i Q S xs n (some d) = Q (.v (.d d)) (S.set i (some (.own (.lst (xs.eraseIdx n))))) := rfl
end
theorem seqIx_nat {n k : Nat} (h : k < n) : seqIndex? (k : Int) n = some k := by
  unfold seqIndex?
  simp
  omega
/-! ### repetition -/
theorem aMul_rep {xs : List D} {k : Nat} (h : xs.length * k ≤ lim) (hk : k ≤ 1000000) : aMul (.own (.lst xs)) (.d (.int (k : Int))) = some (.own (.lst (List.replicate k xs).flatten)) := by
  have e : lRep (.own (.lst xs)) (.d (.int (k : Int))) = some (.own (.lst (List.replicate k xs).flatten)) := by
    unfold lRep
    show (if _ then _ else none) = _
    rw [if_pos (by simp only [Bool.and_eq_true, decide_eq_true_eq, Int.toNat_natCast]; exact ⟨⟨h, by omega⟩, by omega⟩)]
    rfl
  show alt2 lRep (alt2 tRep sRep) _ _ = _
  unfold alt2
  rw [e]
theorem aMul_rep1 {x : D} {k : Nat} (hk : k ≤ 1000000) : aMul (.own (.lst [x])) (.d (.int (k : Int))) = some (.own (.lst (List.replicate k x))) := by
  rw [aMul_rep (by rw [List.length_singleton, Nat.one_mul]; exact Nat.le_trans hk (by decide)) hk]
  refine congrArg (fun l => some (O.own (.lst l))) ?_
  clear hk
  induction k with
  | zero => rfl
  | succ k ih => rw [List.replicate_succ, List.flatten_cons, ih, List.replicate_succ] <;> rfl
theorem aMul_str {a : Str} {k : Nat} (h1 : 2 ≤ k) (h2 : k ≤ 1000) (h3 : 0 < a.length) (h4 : a.length ≤ 1000) : aMul (.d (.str a)) (.d (.int (k : Int))) = some (.d (.str (repS a k))) := by
  have e : sRep (.d (.str a)) (.d (.int (k : Int))) = some (.d (.str (repS a k))) := by
    unfold sRep
    dsimp only
    rw [if_pos (by simp only [Bool.and_eq_true, decide_eq_true_eq]; exact ⟨⟨⟨by omega, by omega⟩, h3⟩, h4⟩)]
    rfl
  exact e
/-! ### lists of whole numbers as data -/
theorem toPys_ints : ∀ u : List Int, toPys (u.map .int) = some (u.map .int)
  | [] => by simp [toPys]
  | x :: u => by rw [List.map_cons, toPys, toPys_ints u]; simp [toPy]
theorem eqvAll_ints : ∀ u v : List Int, PyData.eqvAll (u.map .int) (v.map .int) = decide (u = v)
  | [], [] => by simp [PyData.eqvAll]
  | [], _ :: _ => by simp [PyData.eqvAll]
  | _ :: _, [] => by simp [PyData.eqvAll]
  | x :: u, y :: v => by
    rw [List.map_cons, List.map_cons, PyData.eqvAll, eqvAll_ints u v, PyData.eqv]
    by_cases h : x = y
    · subst h; simp
    · simp [h]
theorem shaped_intsL (u : List Int) : SeqAt.shaped (.list (u.map .int)) = true := by
  have h1 : PyData.canLayAll0 (u.map .int) = true := by
    induction u with
    | nil => simp [PyData.canLayAll0]
    | cons x u ih => rw [List.map_cons, PyData.canLayAll0, ih]; simp [PyData.canLay0]
  have h2 : PyData.depthAll (u.map .int) = 0 := by
    induction u with
    | nil => simp [PyData.depthAll]
    | cons x u ih =>
      rw [List.map_cons, PyData.canLayAll0, Bool.and_eq_true] at h1
      rw [List.map_cons, PyData.depthAll, ih h1.2]; simp [PyData.depth]
  unfold SeqAt.shaped
  rw [PyData.canLay0, PyData.depth, h1, h2]
  rfl
theorem qEq_ints {x y : O} {u v : List Int} (hx : oPy x = some (.list (u.map .int))) (hy : oPy y = some (.list (v.map .int))) (hq : qSc x y = none) : qEq x y = some (decide (u = v)) := by
  unfold qEq
  rw [hq]
  unfold qDp
  rw [hx, hy]
  dsimp only
  rw [shaped_intsL, shaped_intsL, Bool.and_self, if_pos rfl, PyData.eqv, eqvAll_ints]
theorem oPy_dl (u : List Int) : oPy (.d (.lst (u.map .int))) = some (.list (u.map .int)) := by
  show toPy (.lst (u.map .int)) = _
  unfold toPy
  rw [toPys_ints] <;> rfl
theorem oPy_ol (u : List Int) : oPy (.own (.lst (u.map .int))) = some (.list (u.map .int)) := by
  show (toPys (u.map .int)).map PyData.list = _
  rw [toPys_ints] <;> rfl
theorem cEq_dd (u v : List Int) : cEq (.d (.lst (u.map .int))) (.d (.lst (v.map .int))) = some (.d (.bl (decide (u = v)))) := by
  unfold cEq
  rw [qEq_ints (oPy_dl u) (oPy_dl v) rfl] <;> rfl
theorem cNe_dd (u v : List Int) : cNe (.d (.lst (u.map .int))) (.d (.lst (v.map .int))) = some (.d (.bl (!decide (u = v)))) := by
  unfold cNe
  rw [qEq_ints (oPy_dl u) (oPy_dl v) rfl] <;> rfl
theorem cEq_od (u v : List Int) : cEq (.own (.lst (u.map .int))) (.d (.lst (v.map .int))) = some (.d (.bl (decide (u = v)))) := by
  unfold cEq
  rw [qEq_ints (oPy_ol u) (oPy_dl v) rfl] <;> rfl
theorem cEq_oo (u v : List Int) : cEq (.own (.lst (u.map .int))) (.own (.lst (v.map .int))) = some (.d (.bl (decide (u = v)))) := by
  unfold cEq
  rw [qEq_ints (oPy_ol u) (oPy_ol v) rfl] <;> rfl
/-! ### all, any -/
theorem oAll_map {α : Type} (f : α → Bool) (l : List α) : oAll (.own (.lst (l.map fun x => D.bl (f x)))) = some (.d (.bl (l.all f))) := by
  have e : (l.map fun x => D.bl (f x)) = (l.map f).map .bl := by rw [List.map_map] <;> rfl
  rw [oAll_l, e, boolsD_map, Option.map_some, List.all_map]
  rfl
theorem oAny_map {α : Type} (f : α → Bool) (l : List α) : oAny (.own (.lst (l.map fun x => D.bl (f x)))) = some (.d (.bl (l.any f))) := by
  have e : (l.map fun x => D.bl (f x)) = (l.map f).map .bl := by rw [List.map_map] <;> rfl
  rw [oAny_l, e, boolsD_map, Option.map_some, List.any_map]
  rfl
/-! ### a cut behind a statement that may end the def -/
section
variable {S : Sl}
def sqI (I : Sl → Prop) (Q : Out → Sl → Prop) (o : Out) (S : Sl) : Prop := match o with
  | .nx => I S
  | o => Q o S
theorem sqI_nx (I : Sl → Prop) (Q : Out → Sl → Prop) : sqI I Q .nx S = I S := rfl
theorem sqI_rt (I : Sl → Prop) (Q : Out → Sl → Prop) (r : O) : sqI I Q (.rt r) S = Q (.rt r) S := rfl
theorem sqI_bk (I : Sl → Prop) (Q : Out → Sl → Prop) : sqI I Q .bk S = Q .bk S := rfl
theorem sqI_ct (I : Sl → Prop) (Q : Out → Sl → Prop) : sqI I Q .ct S = Q .ct S := rfl
end
theorem wp_cutR {f g : Mn Out} {S : Sl} {Q : Out → Sl → Prop} (I : Sl → Prop) (h1 : wp f S (sqI I Q)) (h2 : ∀ S, I S → wp g S Q) : wp (seqS f g) S Q := by
  rw [wp_seqS]
  refine wp_mono h1 fun o S' h => ?_
  cases o with
  | nx => rw [sq_nx]; exact h2 S' h
  | rt r => rw [sq_rt]; exact h
  | bk => rw [sq_bk]; exact h
  | ct => rw [sq_ct]; exact h
/-! ### comprehensions over a slot's own list -/
section
variable {S : Sl}
noncomputable def coO (i : Nat) (vs : List Nat) (g : O → Mn Unit) (p : Mn Bool) (f : Mn A) (Q : A → Sl → Prop) (S : Sl) : Option (List D) → Prop
  | some ds => wp (compLo i ds vs g p f ds []) (wipeS S vs) (coE vs S Q)
  | none => False
theorem wp_compO (i : Nat) (vs : List Nat) (g : O → Mn Unit) (p : Mn Bool) (f : Mn A) (Q : A → Sl → Prop) : wp (compO i vs g p f) S Q = coO i vs g p f Q S (ownL S i) := by
  cases e : ownL S i with
  | none =>
    have e2 : compO i vs g p f S = .bad := by unfold compO; rw [e]
    unfold wp; rw [e2] <;> rfl
  | some ds =>
    show _ = wp (compLo i ds vs g p f ds []) (wipeS S vs) (coE vs S Q)
    cases e3 : compLo i ds vs g p f ds [] (wipeS S vs) with
    | ok acc S' =>
      have e2 : compO i vs g p f S = .ok (.v (.own (.lst acc))) (restS S vs S') := by unfold compO; rw [e]; dsimp only; rw [e3]
      unfold wp; rw [e2, e3] <;> with_unfolding_all rfl
    | bad =>
      have e2 : compO i vs g p f S = .bad := by unfold compO; rw [e]; dsimp only; rw [e3]
      unfold wp; rw [e2, e3] <;> rfl
    | exc x S' =>
      have e2 : compO i vs g p f S = .bad := by unfold compO; rw [e]; dsimp only; rw [e3]
      unfold wp; rw [e2, e3] <;> rfl
theorem coO_some (i : Nat) (vs : List Nat) (g : O → Mn Unit) (p : Mn Bool) (f : Mn A) (Q : A → Sl → Prop) (ds : List D) : coO i vs g p f Q S (some ds) = wp (compLo i ds vs g p f ds []) (wipeS S vs) (coE vs S Q) := rfl
end
theorem wp_compOP {α : Type} {enc : α → D} {as : List α} {out : α → D} {i : Nat} {vs : List Nat} {g : O → Mn Unit} {p : Mn Bool} {f : Mn A} {Q : List D → Sl → Prop} {S : Sl} (hck : S[i]? = some (some (.own (.lst (as.map enc))))) (hl : as.length ≤ lim)
    (hs : ∀ a, a ∈ as → wp (g (.d (enc a))) S (uP p (ceP vs f (fun d S' => d = out a ∧ S' = S) (fun _ => False)))) (q : Q (as.map out) S) : wp (compLo i (as.map enc) vs g p f (as.map enc) []) S Q := by
  have key : ∀ (post : List α) (acc : List D), (∀ a ∈ post, a ∈ as) → acc.length + post.length ≤ lim → Q (acc ++ post.map out) S → wp (compLo i (as.map enc) vs g p f (post.map enc) acc) S Q := by
    intro post
    induction post with
    | nil =>
      intro acc _ _ hq
      rw [List.map_nil, List.append_nil] at hq
      exact wp_of (compLo_nil hck) hq
    | cons a post ih =>
      intro acc hm hla hq
      rw [List.map_cons]
      rw [List.length_cons] at hla
      let k : Mn (List D) := bnd (g (.d (enc a))) (fun _ => bnd p fun t => match t with
        | true => bnd f fun x => bnd (toD x) fun y S => if acc.length < lim then compLo i (as.map enc) vs g p f (post.map enc) (acc ++ [y]) (wipeS S vs) else .bad
        | false => fun S => compLo i (as.map enc) vs g p f (post.map enc) acc (wipeS S vs))
      have e : wp (compLo i (as.map enc) vs g p f (enc a :: post.map enc) acc) S Q = wp k S Q := by
        have e2 : compLo i (as.map enc) vs g p f (enc a :: post.map enc) acc S = k S := compLo_cons hck
        unfold wp
        rw [e2]
      rw [e]
      show wp (bnd (g (.d (enc a))) _) S Q
      rw [wp_bnd]
      refine wp_mono (hs a (hm a List.mem_cons_self)) fun u S1 h1 => ?_
      rw [bK_eq, wp_bnd]
      refine wp_mono h1 fun t S2 h2 => ?_
      rw [bK_eq]
      cases t with
      | false => exact (show False from h2).elim
      | true =>
        show wp (bnd f _) S2 Q
        rw [wp_bnd]
        refine wp_mono (show wp f S2 _ from h2) fun x S3 h3 => ?_
        rw [bK_eq, wp_bnd]
        refine wp_mono (show wp (toD x) S3 _ from h3) fun d S4 h4 => ?_
        obtain ⟨h5, h6⟩ := (show d = out a ∧ wipeS S4 vs = S from h4)
        have h7 := ih (acc ++ [d]) (fun z hz => hm z (List.mem_cons_of_mem _ hz)) (by rw [List.length_append, List.length_singleton]; omega) (by rw [h5, List.append_assoc]; exact hq)
        unfold bK wp
        dsimp only
        rw [if_pos (by omega), h6]
        with_unfolding_all exact h7
  exact key as [] (fun _ h => h) (by simpa using hl) q
/-! ### range downwards -/
theorem rg3_down {n : Nat} (h : n ≤ 100000) : rg3 [.d (.int ((n : Int) - 1)), .d (.int (-1)), .d (.int (-1))] = some ((List.range n).map fun i => D.int ((n : Int) - 1 - (i : Nat))) := by
  have hr : Builtin.Range.rangeSize ((n : Int) - 1) (-1) (-1) = n := by
    unfold Builtin.Range.rangeSize
    rw [if_neg (by omega)]
    by_cases hn : n = 0
    · subst hn; decide
    · rw [if_pos (by omega), show ((n : Int) - 1 - -1 - 1) / - -1 = (n : Int) - 1 - -1 - 1 from Int.ediv_one _]; omega
  rw [rg3_i, if_pos]
  · rw [hr, Int.toNat_natCast]
    refine congrArg some (List.map_congr_left fun i _ => congrArg D.int ?_)
    omega
  · refine ⟨by omega, by decide, ?_, by rw [hr]; omega⟩
    unfold Builtin.Range.small
    have f : ∀ x : Int, -100000 ≤ x → x ≤ 100000 → Builtin.Range.rangeFitsLong x = true := fun x h1 h2 => by
      unfold Builtin.Range.rangeFitsLong
      simp only [Bool.and_eq_true, decide_eq_true_eq]
      omega
    rw [hr, f _ (by omega) (by omega), f _ (by omega) (by omega), f _ (by omega) (by omega), if_neg (by omega), f (-1 + (-1 + 1)) (by omega) (by omega), Bool.or_true] <;> rfl
end FR

open FR
local macro_rules | `(tactic| simp? only [$xs,*]) => `(tactic| simp -implicitDefEqProofs only [↓wp_bnd, ↓bK_eq, ↓wp_ret, ↓wp_nm, ↓wp_kd, ↓wp_lift, ↓wp_op1, ↓o1_eq, ↓wp_op2, ↓o2a_eq, ↓o2b_eq, ↓wp_evs0, ↓wp_evs, ↓eN_eq, ↓eK_eq, ↓wp_callN, ↓cN_eq, ↓wp_toDd, ↓wp_toDo, ↓wp_toDs, ↓wp_frzs0, ↓wp_frzs, ↓fN_eq, ↓fK_eq, ↓wp_mkT, ↓tN_eq, ↓tK_eq, ↓wp_mkL, ↓mN_eq, ↓mK_eq, ↓wp_newK, ↓wp_newT, ↓wp_liftB, ↓wp_tsb, ↓sbK_eq, ↓wp_tst, ↓stK_eq, ↓cnd_t, ↓cnd_f, ↓wpS_eq, ↓wp_andB, ↓wp_orB, ↓nB_eq, ↓wp_notB, ↓wp_yesB, ↓wp_ifE, ↓vT_some, ↓wp_ifT, ↓wp_andV, ↓wp_orV, ↓vA_eq, ↓vO_eq, ↓wp_seqS, ↓sq_nx, ↓sq_rt, ↓sq_bk, ↓sq_ct, ↓wp_nilS, ↓wp_retN, ↓wp_exprS, ↓xS_eq, ↓wp_retS, ↓rt1_v, ↓rt1_s, ↓wp_ifS, ↓wp_gN, ↓wp_vl, ↓vl1_v, ↓vl1_s, ↓uN_eq, ↓wp_asgS, ↓agK_eq, ↓wp_gT, ↓wp_gsC, ↓gsK_eq, ↓wp_gsN, ↓wp_setIx, ↓sxV_eq, ↓sxA_eq, ↓sxB_eq, ↓sxK_some, ↓wp_putK, ↓wp_apnd, ↓ap0_eq, ↓apA_eq, ↓ownL_eq, ↓wp_augS, ↓agA_eq, ↓wp_liftL, ↓wp_srcS, ↓sr0_eq, ↓srA_eq, ↓wp_srcN, ↓sn0_eq, ↓snA_eq, ↓wp_rangeS, ↓rgA_eq, ↓wp_forA, ↓fr0_eq, ↓uB_eq, ↓lpK_nx, ↓lpK_ct, ↓lpK_bk, ↓lpK_rt, ↓wp_compA, ↓co0_eq, ↓coE_eq, ↓ceA_eq, ↓ceD_eq, ↓ceP_eq, ↓uP_eq, ↓wp_callM, ↓cmA_eq, ↓cmO_some, ↓cmB_eq, ↓wp_callK, ↓ckA_eq, ↓wpM_fm, ↓fmE_rt, ↓fmE_nx, ↓wp_dcA, ↓dc0_eq, ↓dcE_eq, ↓deV_eq, ↓deB_eq, ↓deY_eq, ↓deA_eq, ↓deP_eq, ↓wp_methN, ↓mt0_eq, ↓mtB_eq, ↓wp_srcV, ↓sv0_eq, ↓svA_eq, ↓wp_chn, ↓chA_eq, ↓chB_eq, ↓chE_eq, ↓wp_slc, ↓slA_eq, ↓slL_eq, ↓slH_eq, ↓wp_nopart, ↓wp_part, ↓ptK_eq, ↓wp_popE, ↓wp_popAt, ↓pa0_eq, ↓sqI_nx, ↓sqI_rt, ↓sqI_bk, ↓sqI_ct, ↓wp_compO, coO_some, paV_i, paI_some, paN_some, paX_some, cEq_dd, cNe_dd, cEq_od, cEq_oo, cIn_setT, cIn_setF, ppA_some, ppB_some, cIs_non, cIsnt_non, cIs_bl, cIsnt_bl, tru_lst, tru_flst, tru_int, tru_tup, tru_dk, oMax2_ii, oMin2_ii, sl3_t, sl3_l, sl3_k, sl3_o, ptV_i, oAll_map, oAny_map, aShl_ii, rg3_i, revD_tup, revD_lst, revD_lk, chK_b, mtA_some, kLst_o, kLst_d, dKK_some, keyOf_int, keyOf_str, cInT_o, cInF_o, aK_some, lK_some, lK_none, lK_iteN, view_sl, view_v, join_some, FR.bind_some, FR.bind_none, omap_some, vb_some, views0, views1, b1_eq, b2_eq, dK_d, dK_o, fz_l, fz_k, fz_t, tS1_some, isB_bl, rtK_d, rtK_o, vK_d, vK_o, gTK_some, isOwn_o, isOwn_d, pxK_l, pxK_k, pxK_t, apB_some, owK_some, ag0_some, agB_some, lD_some, lD_ite, pk0, pk1, cnd_eq, aAdd_ii, aAdd_ss, aAdd_tt, aAdd_oo, aAdd_do, aAddI_ii, aSub_ii, aMul_ii, aDiv_ii, aMod_ii, aPow_ii, aNeg_i, cLt_ii, cLe_ii, cGt_ii, cGe_ii, cEq_ii, cNe_ii, cEq_ss, cNe_ss, cEq_bb, cNe_bb, pxI_some, ixN_0, ixN_1, ixN_2, ixN_3, atI_n, atI0, atI1, atI2, atI3, atIm, aIx_l, aIx_f, aIx_k, aIx_t, aIx_s, aIx_dk, aIx_fk, isi_bool, isI_bool_non, isI_bool_bl, isI_bool_int, isI_bool_str, isI_bool_tup, isI_bool_lst, isI_bool_lk, isI_bool_own, isi_int, isI_int_non, isI_int_bl, isI_int_int, isI_int_str, isI_int_tup, isI_int_lst, isI_int_lk, isI_int_own, isi_str, isI_str_non, isI_str_bl, isI_str_int, isI_str_str, isI_str_tup, isI_str_lst, isI_str_lk, isI_str_own, isi_tuple, isI_tuple_non, isI_tuple_bl, isI_tuple_int, isI_tuple_str, isI_tuple_tup, isI_tuple_lst, isI_tuple_lk, isI_tuple_own, isi_list, isI_list_non, isI_list_bl, isI_list_int, isI_list_str, isI_list_tup, isI_list_lst, isI_list_lk, isI_list_own, tru_bl, oLen_t, oLen_l, oLen_k, oLen_o, oInt_i, oInt_b, oTuple_lst, oTuple_lk, oTuple_tup, oTuple_own, oList_lst, oLT_lst, seqD_lst, oList_lk, oLT_lk, seqD_lk, oList_tup, oLT_tup, seqD_tup, oList_own, oLT_own, seqD_str, rg1_i, rg2_i, en1_l, en1_t, zp2_l, zp2_t, notV_b, slots, maskS, wipeS, restS, loans, back, List.getElem?_cons_zero, List.getElem?_cons_succ, List.set_cons_zero, List.set_cons_succ, List.map_cons, List.map_nil, List.length_cons, List.length_nil, List.append_nil, List.cons_append, List.nil_append, List.replicate, List.take_succ_cons, List.take_zero, Option.isSome_some, Option.map_some, Option.bind_some, decide_eq_true_eq, decide_eq_false_iff_not, Bool.not_eq_true', Bool.not_eq_false', Bool.and_eq_true, Bool.false_eq_true, Bool.true_eq_false, true_and, and_true, if_true, if_false, forall_const, true_implies, false_implies, implies_true, reduceIte, reduceCtorEq, Nat.reduceAdd, Nat.reduceSub, Nat.reduceLT, List.nodup_cons, List.nodup_nil, List.not_mem_nil, List.mem_cons, or_false, or_self, Nat.reduceEqDiff, Nat.reduceBEq, Bool.or_false, Bool.false_or, Bool.true_or, Bool.or_true, Bool.or_self, Int.reduceEq, List.length_map, List.length_singleton, ne_eq, not_true_eq_false, not_false_eq_true, ite_true, ite_false, $xs,*])

namespace L_k17
open PySem PySem.Spec L2 FR
/-! ### the text -/
abbrev topS (i : Nat) : Stmt := PySem.Challenge.pw_alwayswritten_k17_is_fit.main.body.getD i (.Pass ⟨0, 0, 0, 0⟩)
abbrev s_is_integer : Stmt := topS 1
abbrev s_is_number : Stmt := topS 2
abbrev s_integer_within : Stmt := topS 3
abbrev s_is_tuple : Stmt := topS 4
abbrev s_are_numbers : Stmt := topS 6
abbrev s_is_closed : Stmt := topS 7
abbrev s_is_pair_of : Stmt := topS 9
abbrev s_fit_pick_holds : Stmt := topS 10
abbrev s_is_fit : Stmt := topS 11
abbrev s__law_pool : Stmt := topS 13
abbrev s__law_take : Stmt := topS 14
abbrev s__law_places : Stmt := topS 15
abbrev s__law_placed : Stmt := topS 16
abbrev s__law_count : Stmt := topS 17
abbrev s__law_pick : Stmt := topS 18
abbrev s__law_letters : Stmt := topS 19
abbrev s__law_planted : Stmt := topS 20
abbrev s__law_put : Stmt := topS 21
abbrev s__law_fit : Stmt := topS 22
abbrev s__law_said : Stmt := topS 23
abbrev s__law_counts : Stmt := topS 24
abbrev s__law_plans : Stmt := topS 25
abbrev s__law_kinds : Stmt := topS 26
abbrev s_law : Stmt := topS 27
/-! ### mirrors -/
@[reducible] def x_is_integer (i : Nat) : Bool := i == 0
def b_is_integer : Mn Out :=
  (seqS (ifS (tst (callN (isiN .bool) [(nm 0), (kd (.ty "bool"))])) (retS 1 (kd (.bl false))) nilS)
  (retS 1 (callN (isiN .int) [(nm 0), (kd (.ty "int"))])))
def m_is_integer : Fm := fm 1 1 x_is_integer b_is_integer
@[reducible] def x_is_tuple (i : Nat) : Bool := i == 0 || i == 1
def b_is_tuple : Mn Out :=
  (retS 2 (andV (callN (isiN .tuple) [(nm 0), (kd (.ty "tuple"))]) (orV (op2 cIs (nm 1) (kd .non)) (op2 cEq (callN (b1 oLen) [(nm 0)]) (nm 1)))))
def m_is_tuple : Fm := fm 2 2 x_is_tuple b_is_tuple
@[reducible] def x__law_pool (i : Nat) : Bool := i == 0
def b__law_pool : Mn Out :=
  (seqS (asgS (gN 1) (kd (.int 0)))
  (seqS (asgS (gN 2) (kd (.int 60013)))
  (seqS (forA (srcS (slc (nm 0) nopart (part (kd (.int 60))))) (gN 3) (seqS (asgS (gN 4) (ifE (tsb (op2 cGe (nm 3) (kd (.int 0)))) (nm 3) (op2 aSub (kd (.int 1)) (nm 3))))
  (seqS (ifS (andB (tsb (op2 cGe (nm 4) (op2 aPow (kd (.int 10)) (kd (.int 18))))) (tsb (op2 cEq (nm 1) (kd (.int 0))))) (asgS (gN 1) (nm 4)) nilS)
  (asgS (gN 2) (op2 aMod (callN (b1 oInt) [(op2 aAdd (op2 aAdd (op2 aMul (nm 2) (kd (.int 39373))) (op2 aMod (callN (b1 oInt) [(nm 4)]) (kd (.int 2147483647)))) (kd (.int 1)))]) (kd (.int 2147483647)))))))
  (retS 1 (mkL [(nm 1), (op2 aAdd (nm 2) (kd (.int 1)))])))))
def m__law_pool : Fm := fm 5 1 x__law_pool b__law_pool
@[reducible] def x__law_take (i : Nat) : Bool := i == 0 || i == 1
def b__law_take : Mn Out :=
  (seqS (ifS (tsb (op2 cGt (op2 aIx (nm 0) (kd (.int 0))) (kd (.int 0)))) (seqS (asgS (gN 2) (op2 aMod (callN (b1 oInt) [(op2 aIx (nm 0) (kd (.int 0)))]) (nm 1)))
  (seqS (setIx 0 (kd (.int 0)) (op2 aDiv (op2 aIx (nm 0) (kd (.int 0))) (nm 1)))
  (retS 2 (nm 2)))) nilS)
  (seqS (setIx 0 (kd (.int 1)) (op2 aMod (callN (b1 oInt) [(op2 aAdd (op2 aMul (op2 aIx (nm 0) (kd (.int 1))) (kd (.int 40692))) (kd (.int 3607)))]) (kd (.int 2147483399))))
  (retS 2 (op2 aMod (callN (b1 oInt) [(op2 aDiv (op2 aMod (callN (b1 oInt) [(op2 aAdd (op2 aMul (op2 aIx (nm 0) (kd (.int 1))) (kd (.int 2383))) (kd (.int 19)))]) (kd (.int 2147483563))) (kd (.int 13)))]) (nm 1)))))
def m__law_take : Fm := fm 3 2 x__law_take b__law_take
@[reducible] def x__law_fit (i : Nat) : Bool := i == 0 || i == 1 || i == 2 || i == 3
def b__law_fit : Mn Out :=
  (seqS (ifS (orB (tsb (op2 cLt (callN (b1 oMin) [(nm 2)]) (kd (.int 0)))) (tsb (op2 cLt (op2 aIx (nm 2) (nm 1)) (kd (.int 1))))) (retS 4 (kd (.bl false))) nilS)
  (seqS (forA (rangeS rg1 [(callN (b1 oLen) [(nm 0)])]) (gN 4) (seqS (asgS (gT 3 (gsC (gN 5) (gsC (gN 6) (gsC (gN 7) gsN)))) (op2 aIx (nm 0) (nm 4)))
  (seqS (asgS (gN 8) (compA [9] (srcS (nm 7)) (gN 9) yesB (op2 aIx (nm 2) (op2 aIx (nm 9) (kd (.int 1))))))
  (seqS (ifS (andB (tsb (op2 cEq (callN (b1 oLen) [(nm 8)]) (kd (.int 0)))) (tsb (op2 cGt (op2 aIx (nm 2) (nm 4)) (kd (.int 0))))) (retS 4 (kd (.bl false))) nilS)
  (seqS (ifS (andB (tsb (op2 cEq (nm 5) (kd (.str "house")))) (tsb (op2 cGt (op2 aIx (nm 2) (nm 4)) (kd (.int 0))))) (ifS (orB (tsb (op2 cLt (op2 aIx (nm 3) (nm 4)) (kd (.int 0)))) (orB (tsb (op2 cGe (op2 aIx (nm 3) (nm 4)) (callN (b1 oLen) [(nm 8)]))) (tsb (op2 cLt (op2 aIx (nm 8) (op2 aIx (nm 3) (nm 4))) (op2 aIx (nm 2) (nm 4)))))) (retS 4 (kd (.bl false))) nilS) (ifS (tsb (op2 cNe (op2 aIx (nm 3) (nm 4)) (op1 aNeg (kd (.int 1))))) (retS 4 (kd (.bl false))) nilS))
  (seqS (ifS (andB (tsb (op2 cEq (nm 5) (kd (.str "outside")))) (andB (tsb (op2 cGt (callN (b1 oLen) [(nm 8)]) (kd (.int 0)))) (tsb (op2 cGt (op2 aIx (nm 2) (nm 4)) (callN (b1 oMin) [(nm 8)]))))) (retS 4 (kd (.bl false))) nilS)
  (ifS (andB (tsb (op2 cEq (nm 5) (kd (.str "pen")))) (tsb (op2 cGt (op2 aMul (nm 6) (op2 aIx (nm 2) (nm 4))) (callN (b1 oSum) [(nm 8)])))) (retS 4 (kd (.bl false))) nilS)))))))
  (retS 4 (kd (.bl true)))))
def m__law_fit : Fm := fm 10 4 x__law_fit b__law_fit
@[reducible] def x__law_said (i : Nat) : Bool := i == 0 || i == 1
def b__law_said : Mn Out :=
  (seqS (ifS (tst (nm 1)) (retS 2 (op2 cIs (nm 0) (kd (.bl true)))) nilS)
  (retS 2 (op2 cIs (nm 0) (kd (.bl false)))))
def m__law_said : Fm := fm 2 2 x__law_said b__law_said
@[reducible] def x_is_number (i : Nat) : Bool := i == 0
def b_is_number : Mn Out :=
  (retS 1 (andV (callM m_is_integer [(nm 0)]) (op2 cGe (nm 0) (kd (.int 0)))))
def m_is_number : Fm := fm 1 1 x_is_number b_is_number
@[reducible] def x_integer_within (i : Nat) : Bool := i == 0 || i == 1 || i == 2
def b_integer_within : Mn Out :=
  (retS 3 (andV (callM m_is_integer [(nm 0)]) (andV (op2 cGe (nm 0) (nm 1)) (op2 cLe (nm 0) (nm 2)))))
def m_integer_within : Fm := fm 3 3 x_integer_within b_integer_within
@[reducible] def x__law_places (i : Nat) : Bool := i == 0 || i == 1
def b__law_places : Mn Out :=
  (seqS (asgS (gN 2) (compA [3] (rangeS rg1 [(nm 1)]) (gN 3) yesB (nm 3)))
  (seqS (asgS (gN 4) (mkL []))
  (seqS (forA (rangeS rg1 [(nm 1)]) (gN 3) (exprS (apnd 4 (popAt 2 (callM m__law_take [(nm 0), (callN (b1 oLen) [(nm 2)])])))))
  (retS 2 (nm 4)))))
def m__law_places : Fm := fm 5 2 x__law_places b__law_places
@[reducible] def x__law_count (i : Nat) : Bool := i == 0 || i == 1
def b__law_count : Mn Out :=
  (seqS (ifS (tsb (op2 cEq (nm 1) (kd (.int 0)))) (retS 2 (kd (.int 1))) nilS)
  (seqS (ifS (tsb (op2 cEq (nm 1) (kd (.int 1)))) (retS 2 (callM m__law_take [(nm 0), (kd (.int 300))])) nilS)
  (seqS (ifS (tsb (op2 cEq (nm 1) (kd (.int 2)))) (retS 2 (op2 aAdd (op2 aMul (op2 aAdd (kd (.int 1)) (callM m__law_take [(nm 0), (kd (.int 9))])) (op2 aPow (kd (.int 10)) (kd (.int 48)))) (callM m__law_take [(nm 0), (op2 aPow (kd (.int 10)) (kd (.int 9)))]))) nilS)
  (retS 2 (callM m__law_take [(nm 0), (kd (.int 10))])))))
def m__law_count : Fm := fm 2 2 x__law_count b__law_count
@[reducible] def x__law_pick (i : Nat) : Bool := i == 0 || i == 1 || i == 2 || i == 3
def b__law_pick : Mn Out :=
  (seqS (asgS (gN 4) (compA [5] (rangeS rg1 [(callN (b1 oLen) [(nm 1)])]) (gN 5) (orB (tsb (op2 cGt (nm 5) (nm 3))) (tsb (op2 cEq (op2 aIx (nm 1) (nm 5)) (kd (.str "pen"))))) (nm 5)))
  (seqS (asgS (gN 6) (compA [7] (rangeS rg1 [(callM m__law_take [(nm 0), (kd (.int 4))])]) (gN 7) yesB (op2 aIx (nm 4) (callM m__law_take [(nm 0), (callN (b1 oLen) [(nm 4)])]))))
  (seqS (asgS (gN 8) (compA [5] (srcS (nm 6)) (gN 5) yesB (op2 aIx (nm 2) (nm 5))))
  (seqS (ifS (tsb (op2 cEq (callN (b1 oLen) [(nm 6)]) (kd (.int 0)))) (retS 4 (mkL [(nm 6), (kd (.int 0)), (op1 aNeg (kd (.int 1)))])) nilS)
  (seqS (ifS (tsb (op2 cEq (op2 aIx (nm 1) (nm 3)) (kd (.str "outside")))) (retS 4 (mkL [(nm 6), (callN (b2 oMax2) [(kd (.int 0)), (op2 aSub (callN (b1 oMin) [(nm 8)]) (op2 aDiv (callM m__law_take [(nm 0), (kd (.int 3))]) (kd (.int 2))))]), (op1 aNeg (kd (.int 1)))])) nilS)
  (seqS (asgS (gN 9) (callM m__law_take [(nm 0), (callN (b1 oLen) [(nm 6)])]))
  (seqS (asgS (gN 10) (callN (b2 oMax2) [(kd (.int 0)), (op2 aSub (op2 aIx (nm 8) (nm 9)) (op2 aDiv (callM m__law_take [(nm 0), (kd (.int 3))]) (kd (.int 2))))]))
  (seqS (ifS (tsb (op2 cEq (nm 10) (kd (.int 0)))) (asgS (gN 9) (op1 aNeg (kd (.int 1)))) nilS)
  (retS 4 (mkL [(nm 6), (nm 10), (nm 9)]))))))))))
def m__law_pick : Fm := fm 11 4 x__law_pick b__law_pick
@[reducible] def x__law_letters (i : Nat) : Bool := i == 0 || i == 1 || i == 2
noncomputable def b__law_letters : Mn Out :=
  (seqS (asgS (gN 3) (op2 aAdd (kd (.int 1)) (callM m__law_take [(nm 0), (kd (.int 4))])))
  (seqS (ifS (tsb (op2 cEq (callM m__law_take [(nm 0), (kd (.int 9))]) (kd (.int 3)))) (asgS (gN 3) (kd (.int 12))) nilS)
  (seqS (asgS (gN 4) (compA [5] (rangeS rg1 [(nm 3)]) (gN 5) yesB (callM m__law_take [(nm 0), (callN (b1 oLen) [(nm 1)])])))
  (seqS (ifS (tsb (op2 cEq (op2 aIx (nm 1) (nm 2)) (kd (.int 0)))) (retS 3 (mkL [(slc (nm 4) (part (callM m__law_take [(nm 0), (kd (.int 3))])) nopart), (op2 aAdd (kd (.int 1)) (callM m__law_take [(nm 0), (kd (.int 6))]))])) nilS)
  (seqS (asgS (gN 6) (callN (b1 oSum) [(compO 4 [7] (gN 7) yesB (op2 aIx (nm 1) (nm 7)))]))
  (seqS (ifS (tsb (op2 cLt (nm 6) (op2 aIx (nm 1) (nm 2)))) (seqS (setIx 4 (kd (.int 0)) (nm 2))
  (asgS (gN 6) (callN (b1 oSum) [(compA [7] (srcS (nm 4)) (gN 7) yesB (op2 aIx (nm 1) (nm 7)))]))) nilS)
  (seqS (asgS (gN 8) (callN (b2 oMin2) [(op2 aPow (kd (.int 10)) (kd (.int 12))), (op2 aDiv (nm 6) (op2 aIx (nm 1) (nm 2)))]))
  (seqS (ifS (tsb (op2 cEq (callM m__law_take [(nm 0), (kd (.int 4))]) (kd (.int 1)))) (asgS (gN 8) (op2 aAdd (kd (.int 1)) (callM m__law_take [(nm 0), (nm 8)]))) nilS)
  (retS 3 (mkL [(nm 4), (nm 8)]))))))))))
noncomputable def m__law_letters : Fm := fm 9 3 x__law_letters b__law_letters
@[reducible] def x_are_numbers (i : Nat) : Bool := i == 0 || i == 1
def b_are_numbers : Mn Out :=
  (retS 2 (andV (callM m_is_tuple [(nm 0), (nm 1)]) (callN (b1 oAll) [(compA [2] (srcS (nm 0)) (gN 2) yesB (callM m_is_number [(nm 2)]))])))
def m_are_numbers : Fm := fm 3 2 x_are_numbers b_are_numbers
@[reducible] def x_fit_pick_holds (i : Nat) : Bool := i == 0 || i == 1 || i == 2 || i == 3
def b_fit_pick_holds : Mn Out :=
  (seqS (asgS (gT 3 (gsC (gN 4) (gsC (gN 5) (gsC (gN 6) gsN)))) (nm 1))
  (seqS (ifS (orB (tsb (op2 cNe (nm 4) (kd (.str "house")))) (tsb (op2 cLt (nm 2) (kd (.int 1))))) (retS 4 (op2 cEq (nm 3) (op1 aNeg (kd (.int 1))))) nilS)
  (retS 4 (andV (callM m_integer_within [(nm 3), (kd (.int 0)), (op2 aSub (callN (b1 oLen) [(nm 6)]) (kd (.int 1)))]) (op2 cGe (op2 aIx (nm 0) (op2 aIx (op2 aIx (nm 6) (nm 3)) (kd (.int 1)))) (nm 2))))))
def m_fit_pick_holds : Fm := fm 7 4 x_fit_pick_holds b_fit_pick_holds
@[reducible] def x__law_placed (i : Nat) : Bool := i == 0 || i == 1
def b__law_placed : Mn Out :=
  (seqS (asgS (gN 2) (callM m__law_places [(nm 0), (callN (b1 oLen) [(nm 1)])]))
  (seqS (asgS (gN 3) (op2 aMul (mkL [(mkT [(kd (.str "pen")), (kd (.int 1)), (mkT [])])]) (callN (b1 oLen) [(nm 1)])))
  (seqS (forA (rangeS rg1 [(callN (b1 oLen) [(nm 1)])]) (gN 4) (seqS (asgS (gT 3 (gsC (gN 5) (gsC (gN 6) (gsC (gN 7) gsN)))) (op2 aIx (nm 1) (nm 4)))
  (seqS (asgS (gN 8) (callM m__law_take [(nm 0), (kd (.int 26))]))
  (seqS (asgS (gN 9) (op2 aIx (mkL [(kd (.str "")), (kd (.str "1")), (kd (.str "z9")), (kd (.str "abcdefg"))]) (callM m__law_take [(nm 0), (kd (.int 4))])))
  (seqS (asgS (gN 10) (mkL []))
  (seqS (forA (srcS (nm 7)) (gN 11) (exprS (apnd 10 (mkT [(op2 aAdd (op2 aIx (kd (.str "mnopqrstuvwxyzabcdefghijkl")) (op2 aMod (op2 aAdd (nm 8) (callN (b1 oLen) [(nm 10)])) (kd (.int 26)))) (nm 9)), (op2 aIx (nm 2) (nm 11))]))))
  (setIx 3 (op2 aIx (nm 2) (nm 4)) (mkT [(nm 5), (nm 6), (callN (b1 oTuple) [(nm 10)])]))))))))
  (retS 2 (mkL [(callN (b1 oTuple) [(nm 3)]), (nm 2)])))))
def m__law_placed : Fm := fm 12 2 x__law_placed b__law_placed
@[reducible] def x_is_closed (i : Nat) : Bool := i == 0 || i == 1
def b_is_closed : Mn Out :=
  (seqS (ifS (notB (tst (callM m_are_numbers [(nm 1), (callN (b1 oLen) [(nm 0)])]))) (retS 2 (kd (.bl false))) nilS)
  (seqS (forA (srcN zp2 [(nm 1), (nm 0)]) (gT 2 (gsC (gN 2) (gsC (gN 3) gsN))) (seqS (asgS (gT 3 (gsC (gN 4) (gsC (gN 5) (gsC (gN 6) gsN)))) (nm 3))
  (seqS (asgS (gN 7) (compA [8, 9] (srcS (nm 6)) (gT 2 (gsC (gN 8) (gsC (gN 9) gsN))) yesB (op2 aIx (nm 1) (nm 9))))
  (seqS (ifS (notB (tst (nm 7))) (asgS (gN 10) (kd (.int 0))) (ifS (tsb (op2 cEq (nm 4) (kd (.str "pen")))) (asgS (gN 10) (op2 aDiv (callN (b1 oSum) [(nm 7)]) (nm 5))) (asgS (gN 10) (ifE (tsb (op2 cEq (nm 4) (kd (.str "house")))) (callN (b1 oMax) [(nm 7)]) (callN (b1 oMin) [(nm 7)])))))
  (ifS (tsb (op2 cGt (nm 2) (nm 10))) (retS 2 (kd (.bl false))) nilS)))))
  (retS 2 (kd (.bl true)))))
def m_is_closed : Fm := fm 11 2 x_is_closed b_is_closed
@[reducible] def x_is_pair_of (i : Nat) : Bool := i == 0 || i == 1 || i == 2
def b_is_pair_of : Mn Out :=
  (seqS (ifS (orB (notB (tst (callM m_is_tuple [(nm 2), (kd (.int 2))]))) (orB (notB (tst (callM m_are_numbers [(op2 aIx (nm 2) (kd (.int 0))), (callN (b1 oLen) [(nm 0)])]))) (notB (tst (callM m_is_tuple [(op2 aIx (nm 2) (kd (.int 1))), (callN (b1 oLen) [(nm 0)])]))))) (retS 3 (kd (.bl false))) nilS)
  (retS 3 (andV (op2 cGe (op2 aIx (op2 aIx (nm 2) (kd (.int 0))) (nm 1)) (kd (.int 1))) (callN (b1 oAll) [(compA [3] (srcS (op2 aIx (nm 2) (kd (.int 1)))) (gN 3) yesB (callM m_is_integer [(nm 3)]))]))))
def m_is_pair_of : Fm := fm 4 3 x_is_pair_of b_is_pair_of
@[reducible] def x__law_put (i : Nat) : Bool := i == 0 || i == 1 || i == 2 || i == 3 || i == 4 || i == 5
def b__law_put : Mn Out :=
  (seqS (asgS (gN 6) (compA [7] (rangeS rg1 [(callN (b1 oLen) [(nm 1)])]) (gN 7) yesB (mkT [(op2 aIx (nm 1) (nm 7)), (op2 aIx (op2 aIx (nm 2) (nm 7)) (kd (.int 1))), (op2 aIx (op2 aIx (nm 2) (nm 7)) (kd (.int 0)))])))
  (seqS (asgS (gT 2 (gsC (gN 8) (gsC (gN 9) gsN))) (callM m__law_placed [(nm 0), (nm 6)]))
  (seqS (asgS (gN 10) (op2 aMul (mkL [(kd (.int 0))]) (callN (b1 oLen) [(nm 1)])))
  (seqS (asgS (gN 11) (op2 aMul (mkL [(op1 aNeg (kd (.int 1)))]) (callN (b1 oLen) [(nm 1)])))
  (seqS (forA (rangeS rg1 [(callN (b1 oLen) [(nm 1)])]) (gN 7) (seqS (setIx 10 (op2 aIx (nm 9) (nm 7)) (op2 aIx (nm 3) (nm 7)))
  (setIx 11 (op2 aIx (nm 9) (nm 7)) (op2 aIx (nm 4) (nm 7)))))
  (seqS (asgS (gN 12) (compA [7] (rangeS rg1 [(callN (b1 oLen) [(nm 1)])]) (gN 7) (tsb (op2 cGt (op2 aIx (nm 10) (nm 7)) (kd (.int 0)))) (nm 7)))
  (seqS (asgS (gN 13) (op2 aIx (nm 12) (callM m__law_take [(nm 0), (callN (b1 oLen) [(nm 12)])])))
  (retS 6 (op2 aAdd (mkL [(nm 8), (callN (b1 oTuple) [(nm 10)]), (callN (b1 oTuple) [(nm 11)]), (nm 13)]) (slc (nm 9) (part (nm 5)) nopart))))))))))
def m__law_put : Fm := fm 14 6 x__law_put b__law_put
@[reducible] def x_is_fit (i : Nat) : Bool := i == 0 || i == 1 || i == 2
def b_is_fit : Mn Out :=
  (seqS (ifS (orB (notB (tst (callM m_is_pair_of [(nm 0), (nm 1), (nm 2)]))) (notB (tst (callM m_is_closed [(nm 0), (op2 aIx (nm 2) (kd (.int 0)))])))) (retS 3 (kd (.bl false))) nilS)
  (seqS (asgS (gT 2 (gsC (gN 3) (gsC (gN 4) gsN))) (nm 2))
  (seqS (forA (srcN en1 [(nm 0)]) (gT 2 (gsC (gN 5) (gsC (gN 6) gsN))) (ifS (notB (tst (callM m_fit_pick_holds [(nm 3), (nm 6), (op2 aIx (nm 3) (nm 5)), (op2 aIx (nm 4) (nm 5))]))) (retS 3 (kd (.bl false))) nilS))
  (retS 3 (kd (.bl true))))))
def m_is_fit : Fm := fm 7 3 x_is_fit b_is_fit
@[reducible] def x__law_planted (i : Nat) : Bool := i == 0 || i == 1
noncomputable def b__law_planted : Mn Out :=
  (seqS (asgS (gN 2) (mkL [(kd (.int 0)), (kd (.int 0))]))
  (seqS (asgS (gN 3) (mkL []))
  (seqS (forA (rangeS rg1 [(nm 1)]) (gN 4) (seqS (asgS (gN 5) (op2 aIx (mkL [(kd (.str "pen")), (kd (.str "outside")), (kd (.str "house")), (kd (.str "pen"))]) (callM m__law_take [(nm 0), (kd (.int 4))])))
  (seqS (ifS (tsb (op2 cNe (nm 5) (kd (.str "pen")))) (seqS (setIx 2 (callN (b1 oInt) [(op2 cEq (nm 5) (kd (.str "house")))]) (op2 aAdd (op2 aIx (nm 2) (callN (b1 oInt) [(op2 cEq (nm 5) (kd (.str "house")))])) (kd (.int 1))))
  (ifS (tsb (op2 cGt (op2 aIx (nm 2) (callN (b1 oInt) [(op2 cEq (nm 5) (kd (.str "house")))])) (kd (.int 4)))) (asgS (gN 5) (kd (.str "pen"))) nilS)) nilS)
  (exprS (apnd 3 (nm 5))))))
  (seqS (asgS (gN 6) (op2 aIx (mkL [(kd (.str "pen")), (kd (.str "outside")), (kd (.str "house"))]) (callM m__law_take [(nm 0), (kd (.int 3))])))
  (seqS (asgS (gN 3) (op2 aAdd (nm 3) (mkL [(kd (.str "pen")), (kd (.str "pen")), (kd (.str "outside")), (kd (.str "house")), (kd (.str "pen")), (nm 6)])))
  (seqS (asgS (gN 7) (callM m__law_take [(nm 0), (kd (.int 5))]))
  (seqS (asgS (gN 8) (compA [5] (srcS (nm 3)) (gN 5) yesB (op2 aMul (callM m__law_count [(nm 0), (nm 7)]) (callN (b1 oInt) [(op2 cEq (nm 5) (kd (.str "pen")))]))))
  (seqS (setIx 8 (nm 1) (callN (b2 oMax2) [(kd (.int 1)), (op2 aIx (nm 8) (nm 1))]))
  (seqS (setIx 8 (op2 aAdd (nm 1) (kd (.int 1))) (op2 aAdd (op2 aAdd (op2 aIx (nm 8) (nm 1)) (kd (.int 1))) (callM m__law_take [(nm 0), (kd (.int 3))])))
  (seqS (setIx 8 (op2 aAdd (nm 1) (kd (.int 4))) (op2 aAdd (kd (.int 1)) (callM m__law_take [(nm 0), (kd (.int 5))])))
  (seqS (setIx 8 (op2 aAdd (nm 1) (kd (.int 5))) (kd (.int 0)))
  (seqS (asgS (gN 9) (op2 aMul (mkL [(op1 aNeg (kd (.int 1)))]) (callN (b1 oLen) [(nm 3)])))
  (seqS (asgS (gN 10) (op2 aMul (mkL [(mkL [(mkL []), (kd (.int 1))])]) (callN (b1 oLen) [(nm 3)])))
  (seqS (asgS (gN 11) (op2 aIx (mkL [(mkL [(nm 1), (op2 aAdd (nm 1) (kd (.int 1)))]), (mkL [(op2 aAdd (nm 1) (kd (.int 1))), (nm 1)])]) (callM m__law_take [(nm 0), (kd (.int 2))])))
  (seqS (asgS (gN 12) (op2 aIx (mkL [(mkL [(nm 1), (op2 aAdd (nm 1) (kd (.int 1))), (op2 aAdd (nm 1) (kd (.int 5)))]), (mkL [(op2 aAdd (nm 1) (kd (.int 5))), (op2 aAdd (nm 1) (kd (.int 1))), (nm 1)]), (mkL [(op2 aAdd (nm 1) (kd (.int 1))), (nm 1)])]) (callM m__law_take [(nm 0), (kd (.int 3))])))
  (seqS (setIx 10 (op2 aAdd (nm 1) (kd (.int 2))) (mkL [(nm 11), (kd (.int 1))]))
  (seqS (setIx 10 (op2 aAdd (nm 1) (kd (.int 3))) (mkL [(nm 12), (kd (.int 1))]))
  (seqS (setIx 8 (op2 aAdd (nm 1) (kd (.int 2))) (op2 aIx (nm 8) (nm 1)))
  (seqS (setIx 8 (op2 aAdd (nm 1) (kd (.int 3))) (op2 aIx (nm 8) (op2 aAdd (nm 1) (kd (.int 1)))))
  (seqS (setIx 9 (op2 aAdd (nm 1) (kd (.int 3))) (methN kLst oIdx (nm 12) [(op2 aAdd (nm 1) (kd (.int 1)))]))
  (seqS (forA (rangeS rg3 [(op2 aSub (nm 1) (kd (.int 1))), (op1 aNeg (kd (.int 1))), (op1 aNeg (kd (.int 1)))]) (gN 4) (ifS (tsb (op2 cNe (op2 aIx (nm 3) (nm 4)) (kd (.str "pen")))) (seqS (asgS (gN 13) (callM m__law_pick [(nm 0), (nm 3), (nm 8), (nm 4)]))
  (seqS (setIx 10 (nm 4) (mkL [(op2 aIx (nm 13) (kd (.int 0))), (kd (.int 1))]))
  (seqS (setIx 8 (nm 4) (op2 aIx (nm 13) (kd (.int 1))))
  (setIx 9 (nm 4) (op2 aIx (nm 13) (kd (.int 2))))))) nilS))
  (seqS (forA (rangeS rg1 [(op2 aAdd (nm 1) (kd (.int 2)))]) (gN 4) (ifS (tsb (op2 cEq (op2 aIx (nm 3) (nm 4)) (kd (.str "pen")))) (setIx 10 (nm 4) (callM m__law_letters [(nm 0), (nm 8), (nm 4)])) nilS))
  (seqS (asgS (gN 14) (op2 aAdd (kd (.int 1)) (callM m__law_take [(nm 0), (kd (.int 6))])))
  (seqS (setIx 10 (op2 aAdd (nm 1) (kd (.int 4))) (mkL [(op2 aMul (mkL [(op2 aAdd (nm 1) (kd (.int 4)))]) (nm 14)), (nm 14)]))
  (seqS (ifS (tsb (op2 cEq (nm 6) (kd (.str "pen")))) (setIx 10 (op2 aAdd (nm 1) (kd (.int 5))) (mkL [(mkL []), (op2 aAdd (kd (.int 1)) (callM m__law_take [(nm 0), (kd (.int 4))]))])) nilS)
  (retS 2 (callM m__law_put [(nm 0), (nm 3), (nm 10), (nm 8), (nm 9), (nm 1)])))))))))))))))))))))))))))
noncomputable def m__law_planted : Fm := fm 15 2 x__law_planted b__law_planted
@[reducible] def x__law_counts (i : Nat) : Bool := i == 0 || i == 1 || i == 2 || i == 3 || i == 4
def b__law_counts : Mn Out :=
  (seqS (forA (rangeS rg1 [(callN (b1 oLen) [(nm 1)])]) (gN 5) (forA (srcS (mkL [(kd (.int 1)), (op1 aNeg (kd (.int 1)))])) (gN 6) (seqS (asgS (gN 7) (callN (b1 oList) [(nm 3)]))
  (seqS (setIx 7 (nm 5) (op2 aAdd (op2 aIx (nm 7) (nm 5)) (nm 6)))
  (ifS (notB (tst (callM m__law_said [(callM m_is_fit [(nm 1), (nm 2), (mkT [(callN (b1 oTuple) [(nm 7)]), (nm 4)])]), (callM m__law_fit [(nm 1), (nm 2), (nm 7), (nm 4)])]))) (retS 5 (kd (.bl false))) nilS)))))
  (retS 5 (kd (.bl true))))
def m__law_counts : Fm := fm 8 5 x__law_counts b__law_counts
@[reducible] def x__law_plans (i : Nat) : Bool := i == 0 || i == 1 || i == 2 || i == 3 || i == 4
def b__law_plans : Mn Out :=
  (seqS (forA (rangeS rg1 [(callN (b1 oLen) [(nm 1)])]) (gN 5) (forA (srcS (mkL [(op1 aNeg (kd (.int 2))), (op1 aNeg (kd (.int 1))), (kd (.int 0)), (kd (.int 1)), (kd (.int 2)), (callN (b1 oLen) [(op2 aIx (op2 aIx (nm 1) (nm 5)) (kd (.int 2)))])])) (gN 6) (seqS (asgS (gN 7) (callN (b1 oList) [(nm 4)]))
  (seqS (setIx 7 (nm 5) (nm 6))
  (ifS (notB (tst (callM m__law_said [(callM m_is_fit [(nm 1), (nm 2), (mkT [(nm 3), (callN (b1 oTuple) [(nm 7)])])]), (callM m__law_fit [(nm 1), (nm 2), (nm 3), (nm 7)])]))) (retS 5 (kd (.bl false))) nilS)))))
  (retS 5 (kd (.bl true))))
def m__law_plans : Fm := fm 8 5 x__law_plans b__law_plans
@[reducible] def x__law_kinds (i : Nat) : Bool := i == 0 || i == 1 || i == 2 || i == 3 || i == 4 || i == 5
def b__law_kinds : Mn Out :=
  (seqS (asgS (gN 6) (callN (b1 oList) [(nm 2)]))
  (seqS (setIx 6 (nm 4) (kd (.bl true)))
  (seqS (asgS (gN 7) (callN (b1 oList) [(nm 2)]))
  (seqS (setIx 7 (nm 5) (kd (.bl false)))
  (seqS (asgS (gN 8) (callN (b1 oList) [(nm 3)]))
  (seqS (setIx 8 (nm 5) (kd .non))
  (seqS (asgS (gN 9) (mkL [(mkT [(callN (b1 oList) [(nm 2)]), (nm 3)]), (mkT [(nm 2), (callN (b1 oList) [(nm 3)])]), (mkL [(nm 2), (nm 3)]), (mkT [(nm 2), (nm 3), (nm 3)]), (mkT [(nm 2)]), (kd .non), (nm 2)]))
  (seqS (asgS (gN 9) (op2 aAdd (nm 9) (mkL [(mkT [(slc (nm 2) (part (kd (.int 1))) nopart), (slc (nm 3) (part (kd (.int 1))) nopart)]), (mkT [(op2 aAdd (nm 2) (mkT [(kd (.int 0))])), (op2 aAdd (nm 3) (mkT [(op1 aNeg (kd (.int 1)))]))]), (mkT [(callN (b1 oTuple) [(nm 7)]), (nm 3)]), (mkT [(nm 2), (callN (b1 oTuple) [(nm 8)])])])))
  (seqS (asgS (gN 9) (op2 aAdd (nm 9) (mkL [(mkT [(mkT []), (mkT [])]), (mkT [(nm 3), (nm 2)]), (kd (.str "fit")), (mkT [(kd (.str "fit")), (mkT [(nm 2), (nm 3)])])])))
  (seqS (forA (rangeS rg1 [(kd (.int 3))]) (gN 10) (ifS (tsb (op2 cIsnt (callM m_is_fit [(nm 1), (nm 4), (op2 aIx (nm 9) (callM m__law_take [(nm 0), (callN (b1 oLen) [(nm 9)])]))]) (kd (.bl false)))) (retS 6 (kd (.bl false))) nilS))
  (seqS (ifS (tsb (op2 cIsnt (callM m_is_fit [(nm 1), (nm 4), (mkT [(callN (b1 oTuple) [(nm 6)]), (nm 3)])]) (kd (.bl false)))) (retS 6 (kd (.bl false))) nilS)
  (seqS (setIx 6 (nm 4) (kd (.int 1)))
  (retS 6 (callM m__law_said [(callM m_is_fit [(nm 1), (nm 4), (mkT [(callN (b1 oTuple) [(nm 6)]), (nm 3)])]), (callM m__law_fit [(nm 1), (nm 4), (nm 6), (nm 3)])]))))))))))))))
def m__law_kinds : Fm := fm 11 6 x__law_kinds b__law_kinds
@[reducible] def x_law (i : Nat) : Bool := i == 0
noncomputable def b_law : Mn Out :=
  (seqS (asgS (gN 1) (callM m__law_pool [(nm 0)]))
  (seqS (asgS (gN 2) (callM m__law_take [(nm 1), (kd (.int 5))]))
  (seqS (ifS (tsb (op2 cEq (callM m__law_take [(nm 1), (kd (.int 13))]) (kd (.int 8)))) (asgS (gN 2) (kd (.int 18))) nilS)
  (seqS (asgS (gN 3) (callM m__law_planted [(nm 1), (nm 2)]))
  (seqS (asgS (gT 4 (gsC (gN 4) (gsC (gN 5) (gsC (gN 6) (gsC (gN 7) gsN))))) (slc (nm 3) nopart (part (kd (.int 4)))))
  (seqS (ifS (tsb (op2 cIsnt (callM m_is_fit [(nm 4), (nm 7), (mkT [(nm 5), (nm 6)])]) (kd (.bl true)))) (retS 1 (kd (.bl false))) nilS)
  (seqS (asgS (gN 8) (op2 aAdd (kd (.int 2)) (callM m__law_take [(nm 1), (op2 aPow (kd (.int 10)) (kd (.int 6)))])))
  (seqS (asgS (gN 9) (callN (b1 oTuple) [(compA [10] (srcS (nm 5)) (gN 10) yesB (op2 aMul (nm 10) (nm 8)))]))
  (seqS (ifS (tsb (op2 cIsnt (callM m_is_fit [(nm 4), (nm 7), (mkT [(nm 9), (nm 6)])]) (kd (.bl true)))) (retS 1 (kd (.bl false))) nilS)
  (seqS (forA (rangeS rg1 [(callN (b1 oLen) [(nm 4)])]) (gN 11) (ifS (notB (tst (callM m__law_said [(callM m_is_fit [(nm 4), (nm 11), (mkT [(nm 5), (nm 6)])]), (op2 cGt (op2 aIx (nm 5) (nm 11)) (kd (.int 0)))]))) (retS 1 (kd (.bl false))) nilS))
  (seqS (ifS (tsb (op2 cIsnt (callM m_is_fit [(nm 4), (nm 7), (mkT [(callN (b1 oTuple) [(op2 aMul (mkL [(kd (.int 0))]) (callN (b1 oLen) [(nm 4)]))]), (callN (b1 oTuple) [(op2 aMul (mkL [(op1 aNeg (kd (.int 1)))]) (callN (b1 oLen) [(nm 4)]))])])]) (kd (.bl false)))) (retS 1 (kd (.bl false))) nilS)
  (seqS (asgS (gN 12) (callN (b1 oList) [(nm 6)]))
  (seqS (setIx 12 (op2 aIx (nm 3) (kd (.int 7))) (methN kLst oIdx (compA [13] (srcS (op2 aIx (op2 aIx (nm 4) (op2 aIx (nm 3) (kd (.int 7)))) (kd (.int 2)))) (gN 13) yesB (op2 aIx (nm 13) (kd (.int 1)))) [(op2 aIx (nm 3) (kd (.int 4)))]))
  (seqS (ifS (tsb (op2 cIsnt (callM m_is_fit [(nm 4), (nm 7), (mkT [(nm 5), (callN (b1 oTuple) [(nm 12)])])]) (kd (.bl false)))) (retS 1 (kd (.bl false))) nilS)
  (seqS (ifS (orB (notB (tst (callM m__law_counts [(nm 1), (nm 4), (nm 7), (nm 5), (nm 6)]))) (notB (tst (callM m__law_plans [(nm 1), (nm 4), (nm 7), (nm 5), (nm 6)])))) (retS 1 (kd (.bl false))) nilS)
  (retS 1 (callM m__law_kinds [(nm 1), (nm 4), (nm 5), (nm 6), (op2 aIx (nm 3) (kd (.int 8))), (op2 aIx (nm 3) (kd (.int 9)))])))))))))))))))))
noncomputable def m_law : Fm := fm 14 1 x_law b_law

end L_k17

namespace L_k17
open PySem PySem.Spec L2 FR
/-! ### what the head tells -/
abbrev FnP (K : PySem.W.Frag) (x : Str) (st : Stmt) (f : Addr) (fd : FuncData) : Prop := FunD K x x (defArgs st) (defBody st) (defScope st) [] [] f fd
structure Wd (K : PySem.W.Frag) (mg : Str → Option Value) where
  a_is_integer : Addr
  d_is_integer : FuncData
  F_is_integer : FnP K "is_integer" s_is_integer a_is_integer d_is_integer
  g_is_integer : mg "is_integer" = some (.ref a_is_integer)
  a_is_number : Addr
  d_is_number : FuncData
  F_is_number : FnP K "is_number" s_is_number a_is_number d_is_number
  g_is_number : mg "is_number" = some (.ref a_is_number)
  a_integer_within : Addr
  d_integer_within : FuncData
  F_integer_within : FnP K "integer_within" s_integer_within a_integer_within d_integer_within
  g_integer_within : mg "integer_within" = some (.ref a_integer_within)
  a_is_tuple : Addr
  d_is_tuple : FuncData
  F_is_tuple : FnP K "is_tuple" s_is_tuple a_is_tuple d_is_tuple
  g_is_tuple : mg "is_tuple" = some (.ref a_is_tuple)
  a_are_numbers : Addr
  d_are_numbers : FuncData
  F_are_numbers : FnP K "are_numbers" s_are_numbers a_are_numbers d_are_numbers
  g_are_numbers : mg "are_numbers" = some (.ref a_are_numbers)
  a_is_closed : Addr
  d_is_closed : FuncData
  F_is_closed : FnP K "is_closed" s_is_closed a_is_closed d_is_closed
  g_is_closed : mg "is_closed" = some (.ref a_is_closed)
  a_is_pair_of : Addr
  d_is_pair_of : FuncData
  F_is_pair_of : FnP K "is_pair_of" s_is_pair_of a_is_pair_of d_is_pair_of
  g_is_pair_of : mg "is_pair_of" = some (.ref a_is_pair_of)
  a_fit_pick_holds : Addr
  d_fit_pick_holds : FuncData
  F_fit_pick_holds : FnP K "fit_pick_holds" s_fit_pick_holds a_fit_pick_holds d_fit_pick_holds
  g_fit_pick_holds : mg "fit_pick_holds" = some (.ref a_fit_pick_holds)
  a_is_fit : Addr
  d_is_fit : FuncData
  F_is_fit : FnP K "is_fit" s_is_fit a_is_fit d_is_fit
  g_is_fit : mg "is_fit" = some (.ref a_is_fit)
  a__law_pool : Addr
  d__law_pool : FuncData
  F__law_pool : FnP K "_law_pool" s__law_pool a__law_pool d__law_pool
  g__law_pool : mg "_law_pool" = some (.ref a__law_pool)
  a__law_take : Addr
  d__law_take : FuncData
  F__law_take : FnP K "_law_take" s__law_take a__law_take d__law_take
  g__law_take : mg "_law_take" = some (.ref a__law_take)
  a__law_places : Addr
  d__law_places : FuncData
  F__law_places : FnP K "_law_places" s__law_places a__law_places d__law_places
  g__law_places : mg "_law_places" = some (.ref a__law_places)
  a__law_placed : Addr
  d__law_placed : FuncData
  F__law_placed : FnP K "_law_placed" s__law_placed a__law_placed d__law_placed
  g__law_placed : mg "_law_placed" = some (.ref a__law_placed)
  a__law_count : Addr
  d__law_count : FuncData
  F__law_count : FnP K "_law_count" s__law_count a__law_count d__law_count
  g__law_count : mg "_law_count" = some (.ref a__law_count)
  a__law_pick : Addr
  d__law_pick : FuncData
  F__law_pick : FnP K "_law_pick" s__law_pick a__law_pick d__law_pick
  g__law_pick : mg "_law_pick" = some (.ref a__law_pick)
  a__law_letters : Addr
  d__law_letters : FuncData
  F__law_letters : FnP K "_law_letters" s__law_letters a__law_letters d__law_letters
  g__law_letters : mg "_law_letters" = some (.ref a__law_letters)
  a__law_planted : Addr
  d__law_planted : FuncData
  F__law_planted : FnP K "_law_planted" s__law_planted a__law_planted d__law_planted
  g__law_planted : mg "_law_planted" = some (.ref a__law_planted)
  a__law_put : Addr
  d__law_put : FuncData
  F__law_put : FnP K "_law_put" s__law_put a__law_put d__law_put
  g__law_put : mg "_law_put" = some (.ref a__law_put)
  a__law_fit : Addr
  d__law_fit : FuncData
  F__law_fit : FnP K "_law_fit" s__law_fit a__law_fit d__law_fit
  g__law_fit : mg "_law_fit" = some (.ref a__law_fit)
  a__law_said : Addr
  d__law_said : FuncData
  F__law_said : FnP K "_law_said" s__law_said a__law_said d__law_said
  g__law_said : mg "_law_said" = some (.ref a__law_said)
  a__law_counts : Addr
  d__law_counts : FuncData
  F__law_counts : FnP K "_law_counts" s__law_counts a__law_counts d__law_counts
  g__law_counts : mg "_law_counts" = some (.ref a__law_counts)
  a__law_plans : Addr
  d__law_plans : FuncData
  F__law_plans : FnP K "_law_plans" s__law_plans a__law_plans d__law_plans
  g__law_plans : mg "_law_plans" = some (.ref a__law_plans)
  a__law_kinds : Addr
  d__law_kinds : FuncData
  F__law_kinds : FnP K "_law_kinds" s__law_kinds a__law_kinds d__law_kinds
  g__law_kinds : mg "_law_kinds" = some (.ref a__law_kinds)
  a_law : Addr
  d_law : FuncData
  F_law : FnP K "law" s_law a_law d_law
  g_law : mg "law" = some (.ref a_law)
  b_all : mg "all" = none
  b_bool : mg "bool" = none
  b_enumerate : mg "enumerate" = none
  b_int : mg "int" = none
  b_isinstance : mg "isinstance" = none
  b_len : mg "len" = none
  b_list : mg "list" = none
  b_max : mg "max" = none
  b_min : mg "min" = none
  b_range : mg "range" = none
  b_sum : mg "sum" = none
  b_tuple : mg "tuple" = none
  b_zip : mg "zip" = none
section
variable {P : Program} {w : World} {K : PySem.W.Frag} {mg : Str → Option Value} {base : Heap}
theorem sc_is_integer : FnScope ["thing"] ["thing"] (defScope s_is_integer) := ⟨rfl, rfl, rfl, by decide +kernel, rfl, by decide +kernel, by decide +kernel⟩
theorem bd_is_integer (W : Wd K mg) : Binds K W.d_is_integer ["thing"] [] := W.F_is_integer.bindsN fun _ _ _ _ _ _ us hl => match us, hl with | [_], _ => rfl
theorem sc_is_tuple : FnScope ["thing", "many"] ["thing", "many"] (defScope s_is_tuple) := ⟨rfl, rfl, rfl, by decide +kernel, rfl, by decide +kernel, by decide +kernel⟩
theorem bd_is_tuple (W : Wd K mg) : Binds K W.d_is_tuple ["thing", "many"] [] := W.F_is_tuple.bindsN fun _ _ _ _ _ _ us hl => match us, hl with | [_, _], _ => rfl
theorem sc__law_pool : FnScope ["script", "great", "mixed", "cell", "size"] ["script"] (defScope s__law_pool) := ⟨rfl, rfl, rfl, by decide +kernel, rfl, by decide +kernel, by decide +kernel⟩
theorem bd__law_pool (W : Wd K mg) : Binds K W.d__law_pool ["script"] [] := W.F__law_pool.bindsN fun _ _ _ _ _ _ us hl => match us, hl with | [_], _ => rfl
theorem sc__law_take : FnScope ["pool", "many", "got"] ["pool", "many"] (defScope s__law_take) := ⟨rfl, rfl, rfl, by decide +kernel, rfl, by decide +kernel, by decide +kernel⟩
theorem bd__law_take (W : Wd K mg) : Binds K W.d__law_take ["pool", "many"] [] := W.F__law_take.bindsN fun _ _ _ _ _ _ us hl => match us, hl with | [_, _], _ => rfl
theorem sc__law_fit : FnScope ["book", "start", "counts", "plan", "k", "owner", "ask", "moves", "goals", "move"] ["book", "start", "counts", "plan"] (defScope s__law_fit) := ⟨rfl, rfl, rfl, by decide +kernel, rfl, by decide +kernel, by decide +kernel⟩
theorem bd__law_fit (W : Wd K mg) : Binds K W.d__law_fit ["book", "start", "counts", "plan"] [] := W.F__law_fit.bindsN fun _ _ _ _ _ _ us hl => match us, hl with | [_, _, _, _], _ => rfl
theorem sc__law_said : FnScope ["told", "due"] ["told", "due"] (defScope s__law_said) := ⟨rfl, rfl, rfl, by decide +kernel, rfl, by decide +kernel, by decide +kernel⟩
theorem bd__law_said (W : Wd K mg) : Binds K W.d__law_said ["told", "due"] [] := W.F__law_said.bindsN fun _ _ _ _ _ _ us hl => match us, hl with | [_, _], _ => rfl
theorem sc_is_number : FnScope ["thing"] ["thing"] (defScope s_is_number) := ⟨rfl, rfl, rfl, by decide +kernel, rfl, by decide +kernel, by decide +kernel⟩
theorem bd_is_number (W : Wd K mg) : Binds K W.d_is_number ["thing"] [] := W.F_is_number.bindsN fun _ _ _ _ _ _ us hl => match us, hl with | [_], _ => rfl
theorem sc_integer_within : FnScope ["thing", "low", "high"] ["thing", "low", "high"] (defScope s_integer_within) := ⟨rfl, rfl, rfl, by decide +kernel, rfl, by decide +kernel, by decide +kernel⟩
theorem bd_integer_within (W : Wd K mg) : Binds K W.d_integer_within ["thing", "low", "high"] [] := W.F_integer_within.bindsN fun _ _ _ _ _ _ us hl => match us, hl with | [_, _, _], _ => rfl
theorem sc__law_places : FnScope ["pool", "many", "rest", "k", "places"] ["pool", "many"] (defScope s__law_places) := ⟨rfl, rfl, rfl, by decide +kernel, rfl, by decide +kernel, by decide +kernel⟩
theorem bd__law_places (W : Wd K mg) : Binds K W.d__law_places ["pool", "many"] [] := W.F__law_places.bindsN fun _ _ _ _ _ _ us hl => match us, hl with | [_, _], _ => rfl
theorem sc__law_count : FnScope ["pool", "habit"] ["pool", "habit"] (defScope s__law_count) := ⟨rfl, rfl, rfl, by decide +kernel, rfl, by decide +kernel, by decide +kernel⟩
theorem bd__law_count (W : Wd K mg) : Binds K W.d__law_count ["pool", "habit"] [] := W.F__law_count.bindsN fun _ _ _ _ _ _ us hl => match us, hl with | [_, _], _ => rfl
theorem sc__law_pick : FnScope ["pool", "owners", "counts", "k", "allowed", "goal", "goals", "lap", "numbers", "planned", "count"] ["pool", "owners", "counts", "k"] (defScope s__law_pick) := ⟨rfl, rfl, rfl, by decide +kernel, rfl, by decide +kernel, by decide +kernel⟩
theorem bd__law_pick (W : Wd K mg) : Binds K W.d__law_pick ["pool", "owners", "counts", "k"] [] := W.F__law_pick.bindsN fun _ _ _ _ _ _ us hl => match us, hl with | [_, _, _, _], _ => rfl
theorem sc__law_letters : FnScope ["pool", "counts", "k", "many", "goals", "lap", "total", "goal", "ask"] ["pool", "counts", "k"] (defScope s__law_letters) := ⟨rfl, rfl, rfl, by decide +kernel, rfl, by decide +kernel, by decide +kernel⟩
theorem bd__law_letters (W : Wd K mg) : Binds K W.d__law_letters ["pool", "counts", "k"] [] := W.F__law_letters.bindsN fun _ _ _ _ _ _ us hl => match us, hl with | [_, _, _], _ => rfl
theorem sc_are_numbers : FnScope ["thing", "many", "element"] ["thing", "many"] (defScope s_are_numbers) := ⟨rfl, rfl, rfl, by decide +kernel, rfl, by decide +kernel, by decide +kernel⟩
theorem bd_are_numbers (W : Wd K mg) : Binds K W.d_are_numbers ["thing", "many"] [] := W.F_are_numbers.bindsN fun _ _ _ _ _ _ us hl => match us, hl with | [_, _], _ => rfl
theorem sc_fit_pick_holds : FnScope ["counts", "standing", "count", "move", "owner", "ask", "moves"] ["counts", "standing", "count", "move"] (defScope s_fit_pick_holds) := ⟨rfl, rfl, rfl, by decide +kernel, rfl, by decide +kernel, by decide +kernel⟩
theorem bd_fit_pick_holds (W : Wd K mg) : Binds K W.d_fit_pick_holds ["counts", "standing", "count", "move"] [] := W.F_fit_pick_holds.bindsN fun _ _ _ _ _ _ us hl => match us, hl with | [_, _, _, _], _ => rfl
theorem sc__law_placed : FnScope ["pool", "standings", "places", "book", "k", "owner", "ask", "goals", "base", "behind", "moves", "goal"] ["pool", "standings"] (defScope s__law_placed) := ⟨rfl, rfl, rfl, by decide +kernel, rfl, by decide +kernel, by decide +kernel⟩
theorem bd__law_placed (W : Wd K mg) : Binds K W.d__law_placed ["pool", "standings"] [] := W.F__law_placed.bindsN fun _ _ _ _ _ _ us hl => match us, hl with | [_, _], _ => rfl
theorem sc_is_closed : FnScope ["book", "thing", "count", "standing", "owner", "ask", "moves", "told", "word", "goal", "most"] ["book", "thing"] (defScope s_is_closed) := ⟨rfl, rfl, rfl, by decide +kernel, rfl, by decide +kernel, by decide +kernel⟩
theorem bd_is_closed (W : Wd K mg) : Binds K W.d_is_closed ["book", "thing"] [] := W.F_is_closed.bindsN fun _ _ _ _ _ _ us hl => match us, hl with | [_, _], _ => rfl
theorem sc_is_pair_of : FnScope ["book", "start", "thing", "move"] ["book", "start", "thing"] (defScope s_is_pair_of) := ⟨rfl, rfl, rfl, by decide +kernel, rfl, by decide +kernel, by decide +kernel⟩
theorem bd_is_pair_of (W : Wd K mg) : Binds K W.d_is_pair_of ["book", "start", "thing"] [] := W.F_is_pair_of.bindsN fun _ _ _ _ _ _ us hl => match us, hl with | [_, _, _], _ => rfl
theorem sc__law_put : FnScope ["pool", "owners", "parts", "counts", "plan", "drawn", "standings", "k", "book", "places", "numbers", "picks", "inside", "start"] ["pool", "owners", "parts", "counts", "plan", "drawn"] (defScope s__law_put) := ⟨rfl, rfl, rfl, by decide +kernel, rfl, by decide +kernel, by decide +kernel⟩
theorem bd__law_put (W : Wd K mg) : Binds K W.d__law_put ["pool", "owners", "parts", "counts", "plan", "drawn"] [] := W.F__law_put.bindsN fun _ _ _ _ _ _ us hl => match us, hl with | [_, _, _, _, _, _], _ => rfl
theorem sc_is_fit : FnScope ["book", "start", "thing", "counts", "plan", "at", "standing"] ["book", "start", "thing"] (defScope s_is_fit) := ⟨rfl, rfl, rfl, by decide +kernel, rfl, by decide +kernel, by decide +kernel⟩
theorem bd_is_fit (W : Wd K mg) : Binds K W.d_is_fit ["book", "start", "thing"] [] := W.F_is_fit.bindsN fun _ _ _ _ _ _ us hl => match us, hl with | [_, _, _], _ => rfl
theorem sc__law_planted : FnScope ["pool", "drawn", "picks", "owners", "k", "owner", "last", "habit", "counts", "plan", "parts", "gate", "hall", "made", "ask"] ["pool", "drawn"] (defScope s__law_planted) := ⟨rfl, rfl, rfl, by decide +kernel, rfl, by decide +kernel, by decide +kernel⟩
theorem bd__law_planted (W : Wd K mg) : Binds K W.d__law_planted ["pool", "drawn"] [] := W.F__law_planted.bindsN fun _ _ _ _ _ _ us hl => match us, hl with | [_, _], _ => rfl
theorem sc__law_counts : FnScope ["pool", "book", "start", "counts", "plan", "k", "by", "other"] ["pool", "book", "start", "counts", "plan"] (defScope s__law_counts) := ⟨rfl, rfl, rfl, by decide +kernel, rfl, by decide +kernel, by decide +kernel⟩
theorem bd__law_counts (W : Wd K mg) : Binds K W.d__law_counts ["pool", "book", "start", "counts", "plan"] [] := W.F__law_counts.bindsN fun _ _ _ _ _ _ us hl => match us, hl with | [_, _, _, _, _], _ => rfl
theorem sc__law_plans : FnScope ["pool", "book", "start", "counts", "plan", "k", "number", "other"] ["pool", "book", "start", "counts", "plan"] (defScope s__law_plans) := ⟨rfl, rfl, rfl, by decide +kernel, rfl, by decide +kernel, by decide +kernel⟩
theorem bd__law_plans (W : Wd K mg) : Binds K W.d__law_plans ["pool", "book", "start", "counts", "plan"] [] := W.F__law_plans.bindsN fun _ _ _ _ _ _ us hl => match us, hl with | [_, _, _, _, _], _ => rfl
theorem sc__law_kinds : FnScope ["pool", "book", "counts", "plan", "even", "end", "ones", "noughts", "planned", "wrong", "lap"] ["pool", "book", "counts", "plan", "even", "end"] (defScope s__law_kinds) := ⟨rfl, rfl, rfl, by decide +kernel, rfl, by decide +kernel, by decide +kernel⟩
theorem bd__law_kinds (W : Wd K mg) : Binds K W.d__law_kinds ["pool", "book", "counts", "plan", "even", "end"] [] := W.F__law_kinds.bindsN fun _ _ _ _ _ _ us hl => match us, hl with | [_, _, _, _, _, _], _ => rfl
theorem sc_law : FnScope ["script", "pool", "drawn", "made", "book", "counts", "plan", "start", "times", "more", "count", "other", "picked", "move"] ["script"] (defScope s_law) := ⟨rfl, rfl, rfl, by decide +kernel, rfl, by decide +kernel, by decide +kernel⟩
theorem bd_law (W : Wd K mg) : Binds K W.d_law ["script"] [] := W.F_law.bindsN fun _ _ _ _ _ _ us hl => match us, hl with | [_], _ => rfl
theorem ok_is_integer (W : Wd K mg) : FnOk P w K mg base CX0 1 W.a_is_integer W.d_is_integer ["thing"] (sp K (List.length (α := Str) ["thing"]) m_is_integer) := ok_def (N := ["thing"]) W.F_is_integer sc_is_integer x_is_integer b_is_integer (by decide) fun cdv A outer s H vs E F0 S0 hr hnp => by
  have hu := hr.units
  have hu1 := units1 hr
  exact (hss_cons (hs_if (ht_tru rfl (he_isi .bool rfl W.b_isinstance rfl (ha_cons (he_nm 0) (ha_cons (he_ty rfl W.b_bool (by decide +kernel)) ha_nil)))) (hss_one (hs_ret hnp he_bl)) hss_nil)
  (hss_one (hs_ret hnp (he_isi .int rfl W.b_isinstance rfl (ha_cons (he_nm 0) (ha_cons (he_ty rfl W.b_int (by decide +kernel)) ha_nil))))))
theorem ok_is_tuple (W : Wd K mg) : FnOk P w K mg base CX0 1 W.a_is_tuple W.d_is_tuple ["thing", "many"] (sp K (List.length (α := Str) ["thing", "many"]) m_is_tuple) := ok_def (N := ["thing", "many"]) W.F_is_tuple sc_is_tuple x_is_tuple b_is_tuple (by decide) fun cdv A outer s H vs E F0 S0 hr hnp => by
  have hu := hr.units
  have hu1 := units1 hr
  exact (hss_one (hs_ret hnp (he_and (he_isi .tuple rfl W.b_isinstance rfl (ha_cons (he_nm 0) (ha_cons (he_ty rfl W.b_tuple (by decide +kernel)) ha_nil))) (he_one (he_or (he_is (he_nm 1) he_non) (he_one (he_eq rfl hu (he_len rfl W.b_len rfl (ha_cons (he_nm 0) ha_nil)) (he_nm 1))))))))
theorem ok__law_pool (W : Wd K mg) : FnOk P w K mg base CX0 1 W.a__law_pool W.d__law_pool ["script"] (sp K (List.length (α := Str) ["script"]) m__law_pool) := ok_def (N := ["script", "great", "mixed", "cell", "size"]) W.F__law_pool sc__law_pool x__law_pool b__law_pool (by decide) fun cdv A outer s H vs E F0 S0 hr hnp => by
  have hu := hr.units
  have hu1 := units1 hr
  exact (hss_cons (hs_set (i := 1) sc__law_pool.nd rfl (by first | exact Or.inl rfl | exact Or.inr rfl) he_int)
  (hss_cons (hs_set (i := 2) sc__law_pool.nd rfl (by first | exact Or.inl rfl | exact Or.inr rfl) he_int)
  (hss_cons (hs_for PassesOwn.never rfl (hi_seq rfl (he_slice rfl (he_nm 0) ho_none (ho_some he_int))) (hg_name (i := 3) sc__law_pool.nd rfl (by first | exact Or.inl rfl | exact Or.inr rfl)) (hss_cons (hs_set (i := 4) sc__law_pool.nd rfl (by first | exact Or.inl rfl | exact Or.inr rfl) (he_if (ht_ge (he_nm 3) he_int) (he_nm 3) (he_sub he_int (he_nm 3))))
  (hss_cons (hs_if (PW.pt (ht_and (ht_ge (he_nm 4) (he_pow he_int he_int)) (ht_and1 (ht_eq rfl hu (he_nm 1) he_int)))) (hss_one (hs_set (i := 1) sc__law_pool.nd rfl (by first | exact Or.inl rfl | exact Or.inr rfl) (he_nm 4))) hss_nil)
  (hss_one (hs_set (i := 2) sc__law_pool.nd rfl (by first | exact Or.inl rfl | exact Or.inr rfl) (he_mod (he_intOf W.b_int rfl (ha_cons (he_add rfl (he_add rfl (he_mul rfl (he_nm 2) he_int) (he_mod (he_intOf W.b_int rfl (ha_cons (he_nm 4) ha_nil)) he_int)) he_int) ha_nil)) he_int))))))
  (hss_one (hs_ret hnp (he_lst (ha_cons (he_nm 1) (ha_cons (he_add rfl (he_nm 2) he_int) ha_nil))))))))
theorem ok__law_take (W : Wd K mg) : FnOk P w K mg base CX0 1 W.a__law_take W.d__law_take ["pool", "many"] (sp K (List.length (α := Str) ["pool", "many"]) m__law_take) := ok_def (N := ["pool", "many", "got"]) W.F__law_take sc__law_take x__law_take b__law_take (by decide) fun cdv A outer s H vs E F0 S0 hr hnp => by
  have hu := hr.units
  have hu1 := units1 hr
  exact (hss_cons (hs_if (ht_gt (he_ix hu1 rfl (he_nm 0) he_int) he_int) (hss_cons (hs_set (i := 2) sc__law_take.nd rfl (by first | exact Or.inl rfl | exact Or.inr rfl) (he_mod (he_intOf W.b_int rfl (ha_cons (he_ix hu1 rfl (he_nm 0) he_int) ha_nil)) (he_nm 1)))
  (hss_cons (hs_setIx (i := 0) hu1 rfl (he_div (he_ix hu1 rfl (he_nm 0) he_int) (he_nm 1)) he_int)
  (hss_one (hs_ret hnp (he_nm 2))))) hss_nil)
  (hss_cons (hs_setIx (i := 0) hu1 rfl (he_mod (he_intOf W.b_int rfl (ha_cons (he_add rfl (he_mul rfl (he_ix hu1 rfl (he_nm 0) he_int) he_int) he_int) ha_nil)) he_int) he_int)
  (hss_one (hs_ret hnp (he_mod (he_intOf W.b_int rfl (ha_cons (he_div (he_mod (he_intOf W.b_int rfl (ha_cons (he_add rfl (he_mul rfl (he_ix hu1 rfl (he_nm 0) he_int) he_int) he_int) ha_nil)) he_int) he_int) ha_nil)) (he_nm 1))))))
theorem ok__law_fit (W : Wd K mg) : FnOk P w K mg base CX0 1 W.a__law_fit W.d__law_fit ["book", "start", "counts", "plan"] (sp K (List.length (α := Str) ["book", "start", "counts", "plan"]) m__law_fit) := ok_def (N := ["book", "start", "counts", "plan", "k", "owner", "ask", "moves", "goals", "move"]) W.F__law_fit sc__law_fit x__law_fit b__law_fit (by decide) fun cdv A outer s H vs E F0 S0 hr hnp => by
  have hu := hr.units
  have hu1 := units1 hr
  exact (hss_cons (hs_if (PW.pt (ht_or (ht_lt (he_min rfl rfl W.b_min rfl (ha_cons (he_nm 2) ha_nil)) he_int) (ht_or1 (ht_lt (he_ix hu1 rfl (he_nm 2) (he_nm 1)) he_int)))) (hss_one (hs_ret hnp he_bl)) hss_nil)
  (hss_cons (hs_for PassesOwn.never rfl (hi_range1 rfl W.b_range (ha_cons (he_len rfl W.b_len rfl (ha_cons (he_nm 0) ha_nil)) ha_nil)) (hg_name (i := 4) sc__law_fit.nd rfl (by first | exact Or.inl rfl | exact Or.inr rfl)) (hss_cons (hs_asg (he_ix hu1 rfl (he_nm 0) (he_nm 4)) (hg_tup rfl rfl (hgs_cons (hg_name (i := 5) sc__law_fit.nd rfl (by first | exact Or.inl rfl | exact Or.inr rfl)) (hgs_cons (hg_name (i := 6) sc__law_fit.nd rfl (by first | exact Or.inl rfl | exact Or.inr rfl)) (hgs_cons (hg_name (i := 7) sc__law_fit.nd rfl (by first | exact Or.inl rfl | exact Or.inr rfl)) hgs_nil)))))
  (hss_cons (hs_setLc (i := 8) (own := [("move", 9)]) rfl sc__law_fit.nd rfl rfl (sw_true rfl rfl rfl (by decide +kernel)) (hi_seq rfl (he_nm 7)) (blkOk_by (by kernel_rfl)) rfl ⟨fun _ _ _ _ _ _ _ _ _ => (hg_name (i := 9) sc__law_fit.nd rfl (by first | exact Or.inl rfl | exact Or.inr rfl)), fun _ _ _ _ _ _ _ _ _ => hts_nil, fun _ _ _ _ _ _ _ _ _ => (he_ix hu1 rfl (he_nm 2) (he_ix hu1 rfl (he_nm 9) he_int))⟩)
  (hss_cons (hs_if (PW.pt (ht_and (ht_eq rfl hu (he_len rfl W.b_len rfl (ha_cons (he_nm 8) ha_nil)) he_int) (ht_and1 (ht_gt (he_ix hu1 rfl (he_nm 2) (he_nm 4)) he_int)))) (hss_one (hs_ret hnp he_bl)) hss_nil)
  (hss_cons (hs_if (PW.pt (ht_and (ht_eq rfl hu (he_nm 5) he_str) (ht_and1 (ht_gt (he_ix hu1 rfl (he_nm 2) (he_nm 4)) he_int)))) (hss_one (hs_if (PW.pt (ht_or (ht_lt (he_ix hu1 rfl (he_nm 3) (he_nm 4)) he_int) (ht_or (ht_ge (he_ix hu1 rfl (he_nm 3) (he_nm 4)) (he_len rfl W.b_len rfl (ha_cons (he_nm 8) ha_nil))) (ht_or1 (ht_lt (he_ix hu1 rfl (he_nm 8) (he_ix hu1 rfl (he_nm 3) (he_nm 4))) (he_ix hu1 rfl (he_nm 2) (he_nm 4))))))) (hss_one (hs_ret hnp he_bl)) hss_nil)) (hss_one (hs_if (ht_ne rfl hu (he_ix hu1 rfl (he_nm 3) (he_nm 4)) (he_neg he_int)) (hss_one (hs_ret hnp he_bl)) hss_nil)))
  (hss_cons (hs_if (PW.pt (ht_and (ht_eq rfl hu (he_nm 5) he_str) (ht_and (ht_gt (he_len rfl W.b_len rfl (ha_cons (he_nm 8) ha_nil)) he_int) (ht_and1 (ht_gt (he_ix hu1 rfl (he_nm 2) (he_nm 4)) (he_min rfl rfl W.b_min rfl (ha_cons (he_nm 8) ha_nil))))))) (hss_one (hs_ret hnp he_bl)) hss_nil)
  (hss_one (hs_if (PW.pt (ht_and (ht_eq rfl hu (he_nm 5) he_str) (ht_and1 (ht_gt (he_mul rfl (he_nm 6) (he_ix hu1 rfl (he_nm 2) (he_nm 4))) (he_sum rfl rfl W.b_sum rfl (ha_cons (he_nm 8) ha_nil)))))) (hss_one (hs_ret hnp he_bl)) hss_nil))))))))
  (hss_one (hs_ret hnp he_bl))))
theorem ok__law_said (W : Wd K mg) : FnOk P w K mg base CX0 1 W.a__law_said W.d__law_said ["told", "due"] (sp K (List.length (α := Str) ["told", "due"]) m__law_said) := ok_def (N := ["told", "due"]) W.F__law_said sc__law_said x__law_said b__law_said (by decide) fun cdv A outer s H vs E F0 S0 hr hnp => by
  have hu := hr.units
  have hu1 := units1 hr
  exact (hss_cons (hs_if (ht_tru rfl (he_nm 1)) (hss_one (hs_ret hnp (he_is (he_nm 0) he_bl))) hss_nil)
  (hss_one (hs_ret hnp (he_is (he_nm 0) he_bl))))
theorem ok_is_number (W : Wd K mg) : FnOk P w K mg base CX0 2 W.a_is_number W.d_is_number ["thing"] (sp K (List.length (α := Str) ["thing"]) m_is_number) := ok_def (N := ["thing"]) W.F_is_number sc_is_number x_is_number b_is_number (by decide) fun cdv A outer s H vs E F0 S0 hr hnp => by
  have hu := hr.units
  have hu1 := units1 hr
  exact (hss_one (hs_ret hnp (he_and (he_call (ok_is_integer W) (hr.mono (by decide)) rfl W.g_is_integer W.F_is_integer.kp (bd_is_integer W) (ha_cons (he_nm 0) ha_nil)) (he_one (he_ge (he_nm 0) he_int)))))
theorem ok_integer_within (W : Wd K mg) : FnOk P w K mg base CX0 2 W.a_integer_within W.d_integer_within ["thing", "low", "high"] (sp K (List.length (α := Str) ["thing", "low", "high"]) m_integer_within) := ok_def (N := ["thing", "low", "high"]) W.F_integer_within sc_integer_within x_integer_within b_integer_within (by decide) fun cdv A outer s H vs E F0 S0 hr hnp => by
  have hu := hr.units
  have hu1 := units1 hr
  exact (hss_one (hs_ret hnp (he_and (he_call (ok_is_integer W) (hr.mono (by decide)) rfl W.g_is_integer W.F_is_integer.kp (bd_is_integer W) (ha_cons (he_nm 0) ha_nil)) (he_and (he_ge (he_nm 0) (he_nm 1)) (he_one (he_le (he_nm 0) (he_nm 2)))))))
theorem ok__law_places (W : Wd K mg) : FnOk P w K mg base CX0 2 W.a__law_places W.d__law_places ["pool", "many"] (sp K (List.length (α := Str) ["pool", "many"]) m__law_places) := ok_def (N := ["pool", "many", "rest", "k", "places"]) W.F__law_places sc__law_places x__law_places b__law_places (by decide) fun cdv A outer s H vs E F0 S0 hr hnp => by
  have hu := hr.units
  have hu1 := units1 hr
  exact (hss_cons (hs_setLc (i := 2) (own := [("k", 3)]) rfl sc__law_places.nd rfl rfl (sw_true rfl rfl rfl (by decide +kernel)) (hi_range1 rfl W.b_range (ha_cons (he_nm 1) ha_nil)) (blkOk_by (by kernel_rfl)) rfl ⟨fun _ _ _ _ _ _ _ _ _ => (hg_name (i := 3) sc__law_places.nd rfl (by first | exact Or.inl rfl | exact Or.inr rfl)), fun _ _ _ _ _ _ _ _ _ => hts_nil, fun _ _ _ _ _ _ _ _ _ => (he_nm 3)⟩)
  (hss_cons (hs_set (i := 4) sc__law_places.nd rfl (by first | exact Or.inl rfl | exact Or.inr rfl) (he_lst ha_nil))
  (hss_cons (hs_for PassesOwn.never rfl (hi_range1 rfl W.b_range (ha_cons (he_nm 1) ha_nil)) (hg_name (i := 3) sc__law_places.nd rfl (by first | exact Or.inl rfl | exact Or.inr rfl)) (hss_one (hs_expr (he_append (i := 4) rfl rfl (he_popAt (i := 2) rfl rfl (he_call (ok__law_take W) (hr.mono (by decide)) rfl W.g__law_take W.F__law_take.kp (bd__law_take W) (ha_cons (he_nm 0) (ha_cons (he_len rfl W.b_len rfl (ha_cons (he_nm 2) ha_nil)) ha_nil))))))))
  (hss_one (hs_ret hnp (he_nm 4))))))
theorem ok__law_count (W : Wd K mg) : FnOk P w K mg base CX0 2 W.a__law_count W.d__law_count ["pool", "habit"] (sp K (List.length (α := Str) ["pool", "habit"]) m__law_count) := ok_def (N := ["pool", "habit"]) W.F__law_count sc__law_count x__law_count b__law_count (by decide) fun cdv A outer s H vs E F0 S0 hr hnp => by
  have hu := hr.units
  have hu1 := units1 hr
  exact (hss_cons (hs_if (ht_eq rfl hu (he_nm 1) he_int) (hss_one (hs_ret hnp he_int)) hss_nil)
  (hss_cons (hs_if (ht_eq rfl hu (he_nm 1) he_int) (hss_one (hs_ret hnp (he_call (ok__law_take W) (hr.mono (by decide)) rfl W.g__law_take W.F__law_take.kp (bd__law_take W) (ha_cons (he_nm 0) (ha_cons he_int ha_nil))))) hss_nil)
  (hss_cons (hs_if (ht_eq rfl hu (he_nm 1) he_int) (hss_one (hs_ret hnp (he_add rfl (he_mul rfl (he_add rfl he_int (he_call (ok__law_take W) (hr.mono (by decide)) rfl W.g__law_take W.F__law_take.kp (bd__law_take W) (ha_cons (he_nm 0) (ha_cons he_int ha_nil)))) (he_pow he_int he_int)) (he_call (ok__law_take W) (hr.mono (by decide)) rfl W.g__law_take W.F__law_take.kp (bd__law_take W) (ha_cons (he_nm 0) (ha_cons (he_pow he_int he_int) ha_nil)))))) hss_nil)
  (hss_one (hs_ret hnp (he_call (ok__law_take W) (hr.mono (by decide)) rfl W.g__law_take W.F__law_take.kp (bd__law_take W) (ha_cons (he_nm 0) (ha_cons he_int ha_nil))))))))
theorem ok__law_pick (W : Wd K mg) : FnOk P w K mg base CX0 2 W.a__law_pick W.d__law_pick ["pool", "owners", "counts", "k"] (sp K (List.length (α := Str) ["pool", "owners", "counts", "k"]) m__law_pick) := ok_def (N := ["pool", "owners", "counts", "k", "allowed", "goal", "goals", "lap", "numbers", "planned", "count"]) W.F__law_pick sc__law_pick x__law_pick b__law_pick (by decide) fun cdv A outer s H vs E F0 S0 hr hnp => by
  have hu := hr.units
  have hu1 := units1 hr
  exact (hss_cons (hs_set (i := 4) sc__law_pick.nd rfl (by first | exact Or.inl rfl | exact Or.inr rfl) (he_comp (own := [("goal", 5)]) rfl sc__law_pick.nd (hi_range1 rfl W.b_range (ha_cons (he_len rfl W.b_len rfl (ha_cons (he_nm 1) ha_nil)) ha_nil)) (blkOk_by (by kernel_rfl)) rfl ⟨fun _ _ _ _ _ _ _ _ _ => (hg_name (i := 5) sc__law_pick.nd rfl (by first | exact Or.inl rfl | exact Or.inr rfl)), fun _ _ _ _ _ _ _ _ _ => (hts_one (PW.pt (ht_or (ht_gt (he_nm 5) (he_nm 3)) (ht_or1 (ht_eq rfl hu (he_ix hu1 rfl (he_nm 1) (he_nm 5)) he_str))))), fun _ _ _ _ _ _ _ _ _ => (he_nm 5)⟩))
  (hss_cons (hs_setLc (i := 6) (own := [("lap", 7)]) rfl sc__law_pick.nd rfl rfl (sw_true rfl rfl rfl (by decide +kernel)) (hi_range1 rfl W.b_range (ha_cons (he_call (ok__law_take W) (hr.mono (by decide)) rfl W.g__law_take W.F__law_take.kp (bd__law_take W) (ha_cons (he_nm 0) (ha_cons he_int ha_nil))) ha_nil)) (blkOk_by (by kernel_rfl)) rfl ⟨fun _ _ _ _ _ _ _ _ _ => (hg_name (i := 7) sc__law_pick.nd rfl (by first | exact Or.inl rfl | exact Or.inr rfl)), fun _ _ _ _ _ _ _ _ _ => hts_nil, fun _ _ _ _ _ _ _ _ _ => (he_ix hu1 rfl (he_nm 4) (he_call (ok__law_take W) (hr.mono (by decide)) rfl W.g__law_take W.F__law_take.kp (bd__law_take W) (ha_cons (he_nm 0) (ha_cons (he_len rfl W.b_len rfl (ha_cons (he_nm 4) ha_nil)) ha_nil))))⟩)
  (hss_cons (hs_setLc (i := 8) (own := [("goal", 5)]) rfl sc__law_pick.nd rfl rfl (sw_true rfl rfl rfl (by decide +kernel)) (hi_seq rfl (he_nm 6)) (blkOk_by (by kernel_rfl)) rfl ⟨fun _ _ _ _ _ _ _ _ _ => (hg_name (i := 5) sc__law_pick.nd rfl (by first | exact Or.inl rfl | exact Or.inr rfl)), fun _ _ _ _ _ _ _ _ _ => hts_nil, fun _ _ _ _ _ _ _ _ _ => (he_ix hu1 rfl (he_nm 2) (he_nm 5))⟩)
  (hss_cons (hs_if (ht_eq rfl hu (he_len rfl W.b_len rfl (ha_cons (he_nm 6) ha_nil)) he_int) (hss_one (hs_ret hnp (he_lst (ha_cons (he_nm 6) (ha_cons he_int (ha_cons (he_neg he_int) ha_nil)))))) hss_nil)
  (hss_cons (hs_if (ht_eq rfl hu (he_ix hu1 rfl (he_nm 1) (he_nm 3)) he_str) (hss_one (hs_ret hnp (he_lst (ha_cons (he_nm 6) (ha_cons (he_max2 rfl W.b_max rfl (ha_cons he_int (ha_cons (he_sub (he_min rfl rfl W.b_min rfl (ha_cons (he_nm 8) ha_nil)) (he_div (he_call (ok__law_take W) (hr.mono (by decide)) rfl W.g__law_take W.F__law_take.kp (bd__law_take W) (ha_cons (he_nm 0) (ha_cons he_int ha_nil))) he_int)) ha_nil))) (ha_cons (he_neg he_int) ha_nil)))))) hss_nil)
  (hss_cons (hs_set (i := 9) sc__law_pick.nd rfl (by first | exact Or.inl rfl | exact Or.inr rfl) (he_call (ok__law_take W) (hr.mono (by decide)) rfl W.g__law_take W.F__law_take.kp (bd__law_take W) (ha_cons (he_nm 0) (ha_cons (he_len rfl W.b_len rfl (ha_cons (he_nm 6) ha_nil)) ha_nil))))
  (hss_cons (hs_set (i := 10) sc__law_pick.nd rfl (by first | exact Or.inl rfl | exact Or.inr rfl) (he_max2 rfl W.b_max rfl (ha_cons he_int (ha_cons (he_sub (he_ix hu1 rfl (he_nm 8) (he_nm 9)) (he_div (he_call (ok__law_take W) (hr.mono (by decide)) rfl W.g__law_take W.F__law_take.kp (bd__law_take W) (ha_cons (he_nm 0) (ha_cons he_int ha_nil))) he_int)) ha_nil))))
  (hss_cons (hs_if (ht_eq rfl hu (he_nm 10) he_int) (hss_one (hs_set (i := 9) sc__law_pick.nd rfl (by first | exact Or.inl rfl | exact Or.inr rfl) (he_neg he_int))) hss_nil)
  (hss_one (hs_ret hnp (he_lst (ha_cons (he_nm 6) (ha_cons (he_nm 10) (ha_cons (he_nm 9) ha_nil))))))))))))))
theorem ok__law_letters (W : Wd K mg) : FnOk P w K mg base CX0 2 W.a__law_letters W.d__law_letters ["pool", "counts", "k"] (sp K (List.length (α := Str) ["pool", "counts", "k"]) m__law_letters) := ok_def (N := ["pool", "counts", "k", "many", "goals", "lap", "total", "goal", "ask"]) W.F__law_letters sc__law_letters x__law_letters b__law_letters (by decide) fun cdv A outer s H vs E F0 S0 hr hnp => by
  have hu := hr.units
  have hu1 := units1 hr
  exact (hss_cons (hs_set (i := 3) sc__law_letters.nd rfl (by first | exact Or.inl rfl | exact Or.inr rfl) (he_add rfl he_int (he_call (ok__law_take W) (hr.mono (by decide)) rfl W.g__law_take W.F__law_take.kp (bd__law_take W) (ha_cons (he_nm 0) (ha_cons he_int ha_nil)))))
  (hss_cons (hs_if (ht_eq rfl hu (he_call (ok__law_take W) (hr.mono (by decide)) rfl W.g__law_take W.F__law_take.kp (bd__law_take W) (ha_cons (he_nm 0) (ha_cons he_int ha_nil))) he_int) (hss_one (hs_set (i := 3) sc__law_letters.nd rfl (by first | exact Or.inl rfl | exact Or.inr rfl) he_int)) hss_nil)
  (hss_cons (hs_setLc (i := 4) (own := [("lap", 5)]) rfl sc__law_letters.nd rfl rfl (sw_true rfl rfl rfl (by decide +kernel)) (hi_range1 rfl W.b_range (ha_cons (he_nm 3) ha_nil)) (blkOk_by (by kernel_rfl)) rfl ⟨fun _ _ _ _ _ _ _ _ _ => (hg_name (i := 5) sc__law_letters.nd rfl (by first | exact Or.inl rfl | exact Or.inr rfl)), fun _ _ _ _ _ _ _ _ _ => hts_nil, fun _ _ _ _ _ _ _ _ _ => (he_call (ok__law_take W) (hr.mono (by decide)) rfl W.g__law_take W.F__law_take.kp (bd__law_take W) (ha_cons (he_nm 0) (ha_cons (he_len rfl W.b_len rfl (ha_cons (he_nm 1) ha_nil)) ha_nil)))⟩)
  (hss_cons (hs_if (ht_eq rfl hu (he_ix hu1 rfl (he_nm 1) (he_nm 2)) he_int) (hss_one (hs_ret hnp (he_lst (ha_cons (he_slice rfl (he_nm 4) (ho_some (he_call (ok__law_take W) (hr.mono (by decide)) rfl W.g__law_take W.F__law_take.kp (bd__law_take W) (ha_cons (he_nm 0) (ha_cons he_int ha_nil)))) ho_none) (ha_cons (he_add rfl he_int (he_call (ok__law_take W) (hr.mono (by decide)) rfl W.g__law_take W.F__law_take.kp (bd__law_take W) (ha_cons (he_nm 0) (ha_cons he_int ha_nil)))) ha_nil))))) hss_nil)
  (hss_cons (hs_set (i := 6) sc__law_letters.nd rfl (by first | exact Or.inl rfl | exact Or.inr rfl) (he_sum rfl rfl W.b_sum rfl (ha_cons (he_compO (i0 := 4) (own := [("goal", 7)]) rfl rfl sc__law_letters.nd (blkOk_by (by kernel_rfl)) rfl ⟨fun _ _ _ _ _ _ _ _ _ => (hg_name (i := 7) sc__law_letters.nd rfl (by first | exact Or.inl rfl | exact Or.inr rfl)), fun _ _ _ _ _ _ _ _ _ => hts_nil, fun _ _ _ _ _ _ _ _ _ => (he_ix hu1 rfl (he_nm 1) (he_nm 7))⟩) ha_nil)))
  (hss_cons (hs_if (ht_lt (he_nm 6) (he_ix hu1 rfl (he_nm 1) (he_nm 2))) (hss_cons (hs_setIx (i := 4) hu1 rfl (he_nm 2) he_int)
  (hss_one (hs_set (i := 6) sc__law_letters.nd rfl (by first | exact Or.inl rfl | exact Or.inr rfl) (he_sum rfl rfl W.b_sum rfl (ha_cons (he_comp (own := [("goal", 7)]) rfl sc__law_letters.nd (hi_seq rfl (he_nm 4)) (blkOk_by (by kernel_rfl)) rfl ⟨fun _ _ _ _ _ _ _ _ _ => (hg_name (i := 7) sc__law_letters.nd rfl (by first | exact Or.inl rfl | exact Or.inr rfl)), fun _ _ _ _ _ _ _ _ _ => hts_nil, fun _ _ _ _ _ _ _ _ _ => (he_ix hu1 rfl (he_nm 1) (he_nm 7))⟩) ha_nil))))) hss_nil)
  (hss_cons (hs_set (i := 8) sc__law_letters.nd rfl (by first | exact Or.inl rfl | exact Or.inr rfl) (he_min2 rfl W.b_min rfl (ha_cons (he_pow he_int he_int) (ha_cons (he_div (he_nm 6) (he_ix hu1 rfl (he_nm 1) (he_nm 2))) ha_nil))))
  (hss_cons (hs_if (ht_eq rfl hu (he_call (ok__law_take W) (hr.mono (by decide)) rfl W.g__law_take W.F__law_take.kp (bd__law_take W) (ha_cons (he_nm 0) (ha_cons he_int ha_nil))) he_int) (hss_one (hs_set (i := 8) sc__law_letters.nd rfl (by first | exact Or.inl rfl | exact Or.inr rfl) (he_add rfl he_int (he_call (ok__law_take W) (hr.mono (by decide)) rfl W.g__law_take W.F__law_take.kp (bd__law_take W) (ha_cons (he_nm 0) (ha_cons (he_nm 8) ha_nil)))))) hss_nil)
  (hss_one (hs_ret hnp (he_lst (ha_cons (he_nm 4) (ha_cons (he_nm 8) ha_nil)))))))))))))
theorem ok_are_numbers (W : Wd K mg) : FnOk P w K mg base CX0 3 W.a_are_numbers W.d_are_numbers ["thing", "many"] (sp K (List.length (α := Str) ["thing", "many"]) m_are_numbers) := ok_def (N := ["thing", "many", "element"]) W.F_are_numbers sc_are_numbers x_are_numbers b_are_numbers (by decide) fun cdv A outer s H vs E F0 S0 hr hnp => by
  have hu := hr.units
  have hu1 := units1 hr
  exact (hss_one (hs_ret hnp (he_and (he_call (ok_is_tuple W) (hr.mono (by decide)) rfl W.g_is_tuple W.F_is_tuple.kp (bd_is_tuple W) (ha_cons (he_nm 0) (ha_cons (he_nm 1) ha_nil))) (he_one (he_all rfl rfl W.b_all rfl (ha_cons (he_comp (own := [("element", 2)]) rfl sc_are_numbers.nd (hi_seq rfl (he_nm 0)) (blkOk_by (by kernel_rfl)) rfl ⟨fun _ _ _ _ _ _ _ _ _ => (hg_name (i := 2) sc_are_numbers.nd rfl (by first | exact Or.inl rfl | exact Or.inr rfl)), fun _ _ _ _ _ _ _ _ _ => hts_nil, fun _ _ _ _ _ _ _ _ _ => (he_call (ok_is_number W) (hr.mono (by decide)) rfl W.g_is_number W.F_is_number.kp (bd_is_number W) (ha_cons (he_nm 2) ha_nil))⟩) ha_nil))))))
theorem ok_fit_pick_holds (W : Wd K mg) : FnOk P w K mg base CX0 3 W.a_fit_pick_holds W.d_fit_pick_holds ["counts", "standing", "count", "move"] (sp K (List.length (α := Str) ["counts", "standing", "count", "move"]) m_fit_pick_holds) := ok_def (N := ["counts", "standing", "count", "move", "owner", "ask", "moves"]) W.F_fit_pick_holds sc_fit_pick_holds x_fit_pick_holds b_fit_pick_holds (by decide) fun cdv A outer s H vs E F0 S0 hr hnp => by
  have hu := hr.units
  have hu1 := units1 hr
  exact (hss_cons (hs_asg (he_nm 1) (hg_tup rfl rfl (hgs_cons (hg_name (i := 4) sc_fit_pick_holds.nd rfl (by first | exact Or.inl rfl | exact Or.inr rfl)) (hgs_cons (hg_name (i := 5) sc_fit_pick_holds.nd rfl (by first | exact Or.inl rfl | exact Or.inr rfl)) (hgs_cons (hg_name (i := 6) sc_fit_pick_holds.nd rfl (by first | exact Or.inl rfl | exact Or.inr rfl)) hgs_nil)))))
  (hss_cons (hs_if (PW.pt (ht_or (ht_ne rfl hu (he_nm 4) he_str) (ht_or1 (ht_lt (he_nm 2) he_int)))) (hss_one (hs_ret hnp (he_eq rfl hu (he_nm 3) (he_neg he_int)))) hss_nil)
  (hss_one (hs_ret hnp (he_and (he_call (ok_integer_within W) (hr.mono (by decide)) rfl W.g_integer_within W.F_integer_within.kp (bd_integer_within W) (ha_cons (he_nm 3) (ha_cons he_int (ha_cons (he_sub (he_len rfl W.b_len rfl (ha_cons (he_nm 6) ha_nil)) he_int) ha_nil)))) (he_one (he_ge (he_ix hu1 rfl (he_nm 0) (he_ix hu1 rfl (he_ix hu1 rfl (he_nm 6) (he_nm 3)) he_int)) (he_nm 2))))))))
theorem ok__law_placed (W : Wd K mg) : FnOk P w K mg base CX0 3 W.a__law_placed W.d__law_placed ["pool", "standings"] (sp K (List.length (α := Str) ["pool", "standings"]) m__law_placed) := ok_def (N := ["pool", "standings", "places", "book", "k", "owner", "ask", "goals", "base", "behind", "moves", "goal"]) W.F__law_placed sc__law_placed x__law_placed b__law_placed (by decide) fun cdv A outer s H vs E F0 S0 hr hnp => by
  have hu := hr.units
  have hu1 := units1 hr
  exact (hss_cons (hs_set (i := 2) sc__law_placed.nd rfl (by first | exact Or.inl rfl | exact Or.inr rfl) (he_call (ok__law_places W) (hr.mono (by decide)) rfl W.g__law_places W.F__law_places.kp (bd__law_places W) (ha_cons (he_nm 0) (ha_cons (he_len rfl W.b_len rfl (ha_cons (he_nm 1) ha_nil)) ha_nil))))
  (hss_cons (hs_set (i := 3) sc__law_placed.nd rfl (by first | exact Or.inl rfl | exact Or.inr rfl) (he_mul rfl (he_lst (ha_cons (he_tup (ha_cons he_str (ha_cons he_int (ha_cons (he_tup ha_nil) ha_nil)))) ha_nil)) (he_len rfl W.b_len rfl (ha_cons (he_nm 1) ha_nil))))
  (hss_cons (hs_for PassesOwn.never rfl (hi_range1 rfl W.b_range (ha_cons (he_len rfl W.b_len rfl (ha_cons (he_nm 1) ha_nil)) ha_nil)) (hg_name (i := 4) sc__law_placed.nd rfl (by first | exact Or.inl rfl | exact Or.inr rfl)) (hss_cons (hs_asg (he_ix hu1 rfl (he_nm 1) (he_nm 4)) (hg_tup rfl rfl (hgs_cons (hg_name (i := 5) sc__law_placed.nd rfl (by first | exact Or.inl rfl | exact Or.inr rfl)) (hgs_cons (hg_name (i := 6) sc__law_placed.nd rfl (by first | exact Or.inl rfl | exact Or.inr rfl)) (hgs_cons (hg_name (i := 7) sc__law_placed.nd rfl (by first | exact Or.inl rfl | exact Or.inr rfl)) hgs_nil)))))
  (hss_cons (hs_set (i := 8) sc__law_placed.nd rfl (by first | exact Or.inl rfl | exact Or.inr rfl) (he_call (ok__law_take W) (hr.mono (by decide)) rfl W.g__law_take W.F__law_take.kp (bd__law_take W) (ha_cons (he_nm 0) (ha_cons he_int ha_nil))))
  (hss_cons (hs_set (i := 9) sc__law_placed.nd rfl (by first | exact Or.inl rfl | exact Or.inr rfl) (he_ix hu1 rfl (he_lst (ha_cons he_str (ha_cons he_str (ha_cons he_str (ha_cons he_str ha_nil))))) (he_call (ok__law_take W) (hr.mono (by decide)) rfl W.g__law_take W.F__law_take.kp (bd__law_take W) (ha_cons (he_nm 0) (ha_cons he_int ha_nil)))))
  (hss_cons (hs_set (i := 10) sc__law_placed.nd rfl (by first | exact Or.inl rfl | exact Or.inr rfl) (he_lst ha_nil))
  (hss_cons (hs_for PassesOwn.never rfl (hi_seq rfl (he_nm 7)) (hg_name (i := 11) sc__law_placed.nd rfl (by first | exact Or.inl rfl | exact Or.inr rfl)) (hss_one (hs_expr (he_append (i := 10) rfl rfl (he_tup (ha_cons (he_add rfl (he_ix hu1 rfl he_str (he_mod (he_add rfl (he_nm 8) (he_len rfl W.b_len rfl (ha_cons (he_nm 10) ha_nil))) he_int)) (he_nm 9)) (ha_cons (he_ix hu1 rfl (he_nm 2) (he_nm 11)) ha_nil)))))))
  (hss_one (hs_setIx (i := 3) hu1 rfl (he_tup (ha_cons (he_nm 5) (ha_cons (he_nm 6) (ha_cons (he_tuple rfl W.b_tuple rfl (ha_cons (he_nm 10) ha_nil)) ha_nil)))) (he_ix hu1 rfl (he_nm 2) (he_nm 4))))))))))
  (hss_one (hs_ret hnp (he_lst (ha_cons (he_tuple rfl W.b_tuple rfl (ha_cons (he_nm 3) ha_nil)) (ha_cons (he_nm 2) ha_nil))))))))
theorem ok_is_closed (W : Wd K mg) : FnOk P w K mg base CX0 4 W.a_is_closed W.d_is_closed ["book", "thing"] (sp K (List.length (α := Str) ["book", "thing"]) m_is_closed) := ok_def (N := ["book", "thing", "count", "standing", "owner", "ask", "moves", "told", "word", "goal", "most"]) W.F_is_closed sc_is_closed x_is_closed b_is_closed (by decide) fun cdv A outer s H vs E F0 S0 hr hnp => by
  have hu := hr.units
  have hu1 := units1 hr
  exact (hss_cons (hs_if (ht_not (ht_tru rfl (he_call (ok_are_numbers W) (hr.mono (by decide)) rfl W.g_are_numbers W.F_are_numbers.kp (bd_are_numbers W) (ha_cons (he_nm 1) (ha_cons (he_len rfl W.b_len rfl (ha_cons (he_nm 0) ha_nil)) ha_nil))))) (hss_one (hs_ret hnp he_bl)) hss_nil)
  (hss_cons (hs_for PassesOwn.never rfl (hi_zip rfl rfl W.b_zip (ha_cons (he_nm 1) (ha_cons (he_nm 0) ha_nil))) (hg_tup rfl rfl (hgs_cons (hg_name (i := 2) sc_is_closed.nd rfl (by first | exact Or.inl rfl | exact Or.inr rfl)) (hgs_cons (hg_name (i := 3) sc_is_closed.nd rfl (by first | exact Or.inl rfl | exact Or.inr rfl)) hgs_nil))) (hss_cons (hs_asg (he_nm 3) (hg_tup rfl rfl (hgs_cons (hg_name (i := 4) sc_is_closed.nd rfl (by first | exact Or.inl rfl | exact Or.inr rfl)) (hgs_cons (hg_name (i := 5) sc_is_closed.nd rfl (by first | exact Or.inl rfl | exact Or.inr rfl)) (hgs_cons (hg_name (i := 6) sc_is_closed.nd rfl (by first | exact Or.inl rfl | exact Or.inr rfl)) hgs_nil)))))
  (hss_cons (hs_setLc (i := 7) (own := [("word", 8), ("goal", 9)]) rfl sc_is_closed.nd rfl rfl (sw_true rfl rfl rfl (by decide +kernel)) (hi_seq rfl (he_nm 6)) (blkOk_by (by kernel_rfl)) rfl ⟨fun _ _ _ _ _ _ _ _ _ => (hg_tup rfl rfl (hgs_cons (hg_name (i := 8) sc_is_closed.nd rfl (by first | exact Or.inl rfl | exact Or.inr rfl)) (hgs_cons (hg_name (i := 9) sc_is_closed.nd rfl (by first | exact Or.inl rfl | exact Or.inr rfl)) hgs_nil))), fun _ _ _ _ _ _ _ _ _ => hts_nil, fun _ _ _ _ _ _ _ _ _ => (he_ix hu1 rfl (he_nm 1) (he_nm 9))⟩)
  (hss_cons (hs_if (ht_not (ht_tru rfl (he_nm 7))) (hss_one (hs_set (i := 10) sc_is_closed.nd rfl (by first | exact Or.inl rfl | exact Or.inr rfl) he_int)) (hss_one (hs_if (ht_eq rfl hu (he_nm 4) he_str) (hss_one (hs_set (i := 10) sc_is_closed.nd rfl (by first | exact Or.inl rfl | exact Or.inr rfl) (he_div (he_sum rfl rfl W.b_sum rfl (ha_cons (he_nm 7) ha_nil)) (he_nm 5)))) (hss_one (hs_set (i := 10) sc_is_closed.nd rfl (by first | exact Or.inl rfl | exact Or.inr rfl) (he_if (ht_eq rfl hu (he_nm 4) he_str) (he_max rfl rfl W.b_max rfl (ha_cons (he_nm 7) ha_nil)) (he_min rfl rfl W.b_min rfl (ha_cons (he_nm 7) ha_nil))))))))
  (hss_one (hs_if (ht_gt (he_nm 2) (he_nm 10)) (hss_one (hs_ret hnp he_bl)) hss_nil))))))
  (hss_one (hs_ret hnp he_bl))))
theorem ok_is_pair_of (W : Wd K mg) : FnOk P w K mg base CX0 4 W.a_is_pair_of W.d_is_pair_of ["book", "start", "thing"] (sp K (List.length (α := Str) ["book", "start", "thing"]) m_is_pair_of) := ok_def (N := ["book", "start", "thing", "move"]) W.F_is_pair_of sc_is_pair_of x_is_pair_of b_is_pair_of (by decide) fun cdv A outer s H vs E F0 S0 hr hnp => by
  have hu := hr.units
  have hu1 := units1 hr
  exact (hss_cons (hs_if (PW.pt (ht_or (ht_not (ht_tru rfl (he_call (ok_is_tuple W) (hr.mono (by decide)) rfl W.g_is_tuple W.F_is_tuple.kp (bd_is_tuple W) (ha_cons (he_nm 2) (ha_cons he_int ha_nil))))) (ht_or (ht_not (ht_tru rfl (he_call (ok_are_numbers W) (hr.mono (by decide)) rfl W.g_are_numbers W.F_are_numbers.kp (bd_are_numbers W) (ha_cons (he_ix hu1 rfl (he_nm 2) he_int) (ha_cons (he_len rfl W.b_len rfl (ha_cons (he_nm 0) ha_nil)) ha_nil))))) (ht_or1 (ht_not (ht_tru rfl (he_call (ok_is_tuple W) (hr.mono (by decide)) rfl W.g_is_tuple W.F_is_tuple.kp (bd_is_tuple W) (ha_cons (he_ix hu1 rfl (he_nm 2) he_int) (ha_cons (he_len rfl W.b_len rfl (ha_cons (he_nm 0) ha_nil)) ha_nil))))))))) (hss_one (hs_ret hnp he_bl)) hss_nil)
  (hss_one (hs_ret hnp (he_and (he_ge (he_ix hu1 rfl (he_ix hu1 rfl (he_nm 2) he_int) (he_nm 1)) he_int) (he_one (he_all rfl rfl W.b_all rfl (ha_cons (he_comp (own := [("move", 3)]) rfl sc_is_pair_of.nd (hi_seq rfl (he_ix hu1 rfl (he_nm 2) he_int)) (blkOk_by (by kernel_rfl)) rfl ⟨fun _ _ _ _ _ _ _ _ _ => (hg_name (i := 3) sc_is_pair_of.nd rfl (by first | exact Or.inl rfl | exact Or.inr rfl)), fun _ _ _ _ _ _ _ _ _ => hts_nil, fun _ _ _ _ _ _ _ _ _ => (he_call (ok_is_integer W) (hr.mono (by decide)) rfl W.g_is_integer W.F_is_integer.kp (bd_is_integer W) (ha_cons (he_nm 3) ha_nil))⟩) ha_nil)))))))
theorem ok__law_put (W : Wd K mg) : FnOk P w K mg base CX0 4 W.a__law_put W.d__law_put ["pool", "owners", "parts", "counts", "plan", "drawn"] (sp K (List.length (α := Str) ["pool", "owners", "parts", "counts", "plan", "drawn"]) m__law_put) := ok_def (N := ["pool", "owners", "parts", "counts", "plan", "drawn", "standings", "k", "book", "places", "numbers", "picks", "inside", "start"]) W.F__law_put sc__law_put x__law_put b__law_put (by decide) fun cdv A outer s H vs E F0 S0 hr hnp => by
  have hu := hr.units
  have hu1 := units1 hr
  exact (hss_cons (hs_setLc (i := 6) (own := [("k", 7)]) rfl sc__law_put.nd rfl rfl (sw_true rfl rfl rfl (by decide +kernel)) (hi_range1 rfl W.b_range (ha_cons (he_len rfl W.b_len rfl (ha_cons (he_nm 1) ha_nil)) ha_nil)) (blkOk_by (by kernel_rfl)) rfl ⟨fun _ _ _ _ _ _ _ _ _ => (hg_name (i := 7) sc__law_put.nd rfl (by first | exact Or.inl rfl | exact Or.inr rfl)), fun _ _ _ _ _ _ _ _ _ => hts_nil, fun _ _ _ _ _ _ _ _ _ => (he_tup (ha_cons (he_ix hu1 rfl (he_nm 1) (he_nm 7)) (ha_cons (he_ix hu1 rfl (he_ix hu1 rfl (he_nm 2) (he_nm 7)) he_int) (ha_cons (he_ix hu1 rfl (he_ix hu1 rfl (he_nm 2) (he_nm 7)) he_int) ha_nil))))⟩)
  (hss_cons (hs_asg (he_call (ok__law_placed W) (hr.mono (by decide)) rfl W.g__law_placed W.F__law_placed.kp (bd__law_placed W) (ha_cons (he_nm 0) (ha_cons (he_nm 6) ha_nil))) (hg_tup rfl rfl (hgs_cons (hg_name (i := 8) sc__law_put.nd rfl (by first | exact Or.inl rfl | exact Or.inr rfl)) (hgs_cons (hg_name (i := 9) sc__law_put.nd rfl (by first | exact Or.inl rfl | exact Or.inr rfl)) hgs_nil))))
  (hss_cons (hs_set (i := 10) sc__law_put.nd rfl (by first | exact Or.inl rfl | exact Or.inr rfl) (he_mul rfl (he_lst (ha_cons he_int ha_nil)) (he_len rfl W.b_len rfl (ha_cons (he_nm 1) ha_nil))))
  (hss_cons (hs_set (i := 11) sc__law_put.nd rfl (by first | exact Or.inl rfl | exact Or.inr rfl) (he_mul rfl (he_lst (ha_cons (he_neg he_int) ha_nil)) (he_len rfl W.b_len rfl (ha_cons (he_nm 1) ha_nil))))
  (hss_cons (hs_for PassesOwn.never rfl (hi_range1 rfl W.b_range (ha_cons (he_len rfl W.b_len rfl (ha_cons (he_nm 1) ha_nil)) ha_nil)) (hg_name (i := 7) sc__law_put.nd rfl (by first | exact Or.inl rfl | exact Or.inr rfl)) (hss_cons (hs_setIx (i := 10) hu1 rfl (he_ix hu1 rfl (he_nm 3) (he_nm 7)) (he_ix hu1 rfl (he_nm 9) (he_nm 7)))
  (hss_one (hs_setIx (i := 11) hu1 rfl (he_ix hu1 rfl (he_nm 4) (he_nm 7)) (he_ix hu1 rfl (he_nm 9) (he_nm 7))))))
  (hss_cons (hs_setLc (i := 12) (own := [("k", 7)]) rfl sc__law_put.nd rfl rfl (sw_true rfl rfl rfl (by decide +kernel)) (hi_range1 rfl W.b_range (ha_cons (he_len rfl W.b_len rfl (ha_cons (he_nm 1) ha_nil)) ha_nil)) (blkOk_by (by kernel_rfl)) rfl ⟨fun _ _ _ _ _ _ _ _ _ => (hg_name (i := 7) sc__law_put.nd rfl (by first | exact Or.inl rfl | exact Or.inr rfl)), fun _ _ _ _ _ _ _ _ _ => (hts_one (ht_gt (he_ix hu1 rfl (he_nm 10) (he_nm 7)) he_int)), fun _ _ _ _ _ _ _ _ _ => (he_nm 7)⟩)
  (hss_cons (hs_set (i := 13) sc__law_put.nd rfl (by first | exact Or.inl rfl | exact Or.inr rfl) (he_ix hu1 rfl (he_nm 12) (he_call (ok__law_take W) (hr.mono (by decide)) rfl W.g__law_take W.F__law_take.kp (bd__law_take W) (ha_cons (he_nm 0) (ha_cons (he_len rfl W.b_len rfl (ha_cons (he_nm 12) ha_nil)) ha_nil)))))
  (hss_one (hs_ret hnp (he_add rfl (he_lst (ha_cons (he_nm 8) (ha_cons (he_tuple rfl W.b_tuple rfl (ha_cons (he_nm 10) ha_nil)) (ha_cons (he_tuple rfl W.b_tuple rfl (ha_cons (he_nm 11) ha_nil)) (ha_cons (he_nm 13) ha_nil))))) (he_slice rfl (he_nm 9) (ho_some (he_nm 5)) ho_none)))))))))))
theorem ok_is_fit (W : Wd K mg) : FnOk P w K mg base CX0 5 W.a_is_fit W.d_is_fit ["book", "start", "thing"] (sp K (List.length (α := Str) ["book", "start", "thing"]) m_is_fit) := ok_def (N := ["book", "start", "thing", "counts", "plan", "at", "standing"]) W.F_is_fit sc_is_fit x_is_fit b_is_fit (by decide) fun cdv A outer s H vs E F0 S0 hr hnp => by
  have hu := hr.units
  have hu1 := units1 hr
  exact (hss_cons (hs_if (PW.pt (ht_or (ht_not (ht_tru rfl (he_call (ok_is_pair_of W) (hr.mono (by decide)) rfl W.g_is_pair_of W.F_is_pair_of.kp (bd_is_pair_of W) (ha_cons (he_nm 0) (ha_cons (he_nm 1) (ha_cons (he_nm 2) ha_nil)))))) (ht_or1 (ht_not (ht_tru rfl (he_call (ok_is_closed W) (hr.mono (by decide)) rfl W.g_is_closed W.F_is_closed.kp (bd_is_closed W) (ha_cons (he_nm 0) (ha_cons (he_ix hu1 rfl (he_nm 2) he_int) ha_nil)))))))) (hss_one (hs_ret hnp he_bl)) hss_nil)
  (hss_cons (hs_asg (he_nm 2) (hg_tup rfl rfl (hgs_cons (hg_name (i := 3) sc_is_fit.nd rfl (by first | exact Or.inl rfl | exact Or.inr rfl)) (hgs_cons (hg_name (i := 4) sc_is_fit.nd rfl (by first | exact Or.inl rfl | exact Or.inr rfl)) hgs_nil))))
  (hss_cons (hs_for PassesOwn.never rfl (hi_enum rfl rfl W.b_enumerate (ha_cons (he_nm 0) ha_nil)) (hg_tup rfl rfl (hgs_cons (hg_name (i := 5) sc_is_fit.nd rfl (by first | exact Or.inl rfl | exact Or.inr rfl)) (hgs_cons (hg_name (i := 6) sc_is_fit.nd rfl (by first | exact Or.inl rfl | exact Or.inr rfl)) hgs_nil))) (hss_one (hs_if (ht_not (ht_tru rfl (he_call (ok_fit_pick_holds W) (hr.mono (by decide)) rfl W.g_fit_pick_holds W.F_fit_pick_holds.kp (bd_fit_pick_holds W) (ha_cons (he_nm 3) (ha_cons (he_nm 6) (ha_cons (he_ix hu1 rfl (he_nm 3) (he_nm 5)) (ha_cons (he_ix hu1 rfl (he_nm 4) (he_nm 5)) ha_nil))))))) (hss_one (hs_ret hnp he_bl)) hss_nil)))
  (hss_one (hs_ret hnp he_bl)))))
theorem ok__law_planted (W : Wd K mg) : FnOk P w K mg base CX0 5 W.a__law_planted W.d__law_planted ["pool", "drawn"] (sp K (List.length (α := Str) ["pool", "drawn"]) m__law_planted) := ok_def (N := ["pool", "drawn", "picks", "owners", "k", "owner", "last", "habit", "counts", "plan", "parts", "gate", "hall", "made", "ask"]) W.F__law_planted sc__law_planted x__law_planted b__law_planted (by decide) fun cdv A outer s H vs E F0 S0 hr hnp => by
  have hu := hr.units
  have hu1 := units1 hr
  exact (hss_cons (hs_set (i := 2) sc__law_planted.nd rfl (by first | exact Or.inl rfl | exact Or.inr rfl) (he_lst (ha_cons he_int (ha_cons he_int ha_nil))))
  (hss_cons (hs_set (i := 3) sc__law_planted.nd rfl (by first | exact Or.inl rfl | exact Or.inr rfl) (he_lst ha_nil))
  (hss_cons (hs_for PassesOwn.never rfl (hi_range1 rfl W.b_range (ha_cons (he_nm 1) ha_nil)) (hg_name (i := 4) sc__law_planted.nd rfl (by first | exact Or.inl rfl | exact Or.inr rfl)) (hss_cons (hs_set (i := 5) sc__law_planted.nd rfl (by first | exact Or.inl rfl | exact Or.inr rfl) (he_ix hu1 rfl (he_lst (ha_cons he_str (ha_cons he_str (ha_cons he_str (ha_cons he_str ha_nil))))) (he_call (ok__law_take W) (hr.mono (by decide)) rfl W.g__law_take W.F__law_take.kp (bd__law_take W) (ha_cons (he_nm 0) (ha_cons he_int ha_nil)))))
  (hss_cons (hs_if (ht_ne rfl hu (he_nm 5) he_str) (hss_cons (hs_setIx (i := 2) hu1 rfl (he_add rfl (he_ix hu1 rfl (he_nm 2) (he_intOf W.b_int rfl (ha_cons (he_eq rfl hu (he_nm 5) he_str) ha_nil))) he_int) (he_intOf W.b_int rfl (ha_cons (he_eq rfl hu (he_nm 5) he_str) ha_nil)))
  (hss_one (hs_if (ht_gt (he_ix hu1 rfl (he_nm 2) (he_intOf W.b_int rfl (ha_cons (he_eq rfl hu (he_nm 5) he_str) ha_nil))) he_int) (hss_one (hs_set (i := 5) sc__law_planted.nd rfl (by first | exact Or.inl rfl | exact Or.inr rfl) he_str)) hss_nil))) hss_nil)
  (hss_one (hs_expr (he_append (i := 3) rfl rfl (he_nm 5)))))))
  (hss_cons (hs_set (i := 6) sc__law_planted.nd rfl (by first | exact Or.inl rfl | exact Or.inr rfl) (he_ix hu1 rfl (he_lst (ha_cons he_str (ha_cons he_str (ha_cons he_str ha_nil)))) (he_call (ok__law_take W) (hr.mono (by decide)) rfl W.g__law_take W.F__law_take.kp (bd__law_take W) (ha_cons (he_nm 0) (ha_cons he_int ha_nil)))))
  (hss_cons (hs_set (i := 3) sc__law_planted.nd rfl (by first | exact Or.inl rfl | exact Or.inr rfl) (he_add rfl (he_nm 3) (he_lst (ha_cons he_str (ha_cons he_str (ha_cons he_str (ha_cons he_str (ha_cons he_str (ha_cons (he_nm 6) ha_nil)))))))))
  (hss_cons (hs_set (i := 7) sc__law_planted.nd rfl (by first | exact Or.inl rfl | exact Or.inr rfl) (he_call (ok__law_take W) (hr.mono (by decide)) rfl W.g__law_take W.F__law_take.kp (bd__law_take W) (ha_cons (he_nm 0) (ha_cons he_int ha_nil))))
  (hss_cons (hs_setLc (i := 8) (own := [("owner", 5)]) rfl sc__law_planted.nd rfl rfl (sw_true rfl rfl rfl (by decide +kernel)) (hi_seq rfl (he_nm 3)) (blkOk_by (by kernel_rfl)) rfl ⟨fun _ _ _ _ _ _ _ _ _ => (hg_name (i := 5) sc__law_planted.nd rfl (by first | exact Or.inl rfl | exact Or.inr rfl)), fun _ _ _ _ _ _ _ _ _ => hts_nil, fun _ _ _ _ _ _ _ _ _ => (he_mul rfl (he_call (ok__law_count W) (hr.mono (by decide)) rfl W.g__law_count W.F__law_count.kp (bd__law_count W) (ha_cons (he_nm 0) (ha_cons (he_nm 7) ha_nil))) (he_intOf W.b_int rfl (ha_cons (he_eq rfl hu (he_nm 5) he_str) ha_nil)))⟩)
  (hss_cons (hs_setIx (i := 8) hu1 rfl (he_max2 rfl W.b_max rfl (ha_cons he_int (ha_cons (he_ix hu1 rfl (he_nm 8) (he_nm 1)) ha_nil))) (he_nm 1))
  (hss_cons (hs_setIx (i := 8) hu1 rfl (he_add rfl (he_add rfl (he_ix hu1 rfl (he_nm 8) (he_nm 1)) he_int) (he_call (ok__law_take W) (hr.mono (by decide)) rfl W.g__law_take W.F__law_take.kp (bd__law_take W) (ha_cons (he_nm 0) (ha_cons he_int ha_nil)))) (he_add rfl (he_nm 1) he_int))
  (hss_cons (hs_setIx (i := 8) hu1 rfl (he_add rfl he_int (he_call (ok__law_take W) (hr.mono (by decide)) rfl W.g__law_take W.F__law_take.kp (bd__law_take W) (ha_cons (he_nm 0) (ha_cons he_int ha_nil)))) (he_add rfl (he_nm 1) he_int))
  (hss_cons (hs_setIx (i := 8) hu1 rfl he_int (he_add rfl (he_nm 1) he_int))
  (hss_cons (hs_set (i := 9) sc__law_planted.nd rfl (by first | exact Or.inl rfl | exact Or.inr rfl) (he_mul rfl (he_lst (ha_cons (he_neg he_int) ha_nil)) (he_len rfl W.b_len rfl (ha_cons (he_nm 3) ha_nil))))
  (hss_cons (hs_set (i := 10) sc__law_planted.nd rfl (by first | exact Or.inl rfl | exact Or.inr rfl) (he_mul rfl (he_lst (ha_cons (he_lst (ha_cons (he_lst ha_nil) (ha_cons he_int ha_nil))) ha_nil)) (he_len rfl W.b_len rfl (ha_cons (he_nm 3) ha_nil))))
  (hss_cons (hs_set (i := 11) sc__law_planted.nd rfl (by first | exact Or.inl rfl | exact Or.inr rfl) (he_ix hu1 rfl (he_lst (ha_cons (he_lst (ha_cons (he_nm 1) (ha_cons (he_add rfl (he_nm 1) he_int) ha_nil))) (ha_cons (he_lst (ha_cons (he_add rfl (he_nm 1) he_int) (ha_cons (he_nm 1) ha_nil))) ha_nil))) (he_call (ok__law_take W) (hr.mono (by decide)) rfl W.g__law_take W.F__law_take.kp (bd__law_take W) (ha_cons (he_nm 0) (ha_cons he_int ha_nil)))))
  (hss_cons (hs_set (i := 12) sc__law_planted.nd rfl (by first | exact Or.inl rfl | exact Or.inr rfl) (he_ix hu1 rfl (he_lst (ha_cons (he_lst (ha_cons (he_nm 1) (ha_cons (he_add rfl (he_nm 1) he_int) (ha_cons (he_add rfl (he_nm 1) he_int) ha_nil)))) (ha_cons (he_lst (ha_cons (he_add rfl (he_nm 1) he_int) (ha_cons (he_add rfl (he_nm 1) he_int) (ha_cons (he_nm 1) ha_nil)))) (ha_cons (he_lst (ha_cons (he_add rfl (he_nm 1) he_int) (ha_cons (he_nm 1) ha_nil))) ha_nil)))) (he_call (ok__law_take W) (hr.mono (by decide)) rfl W.g__law_take W.F__law_take.kp (bd__law_take W) (ha_cons (he_nm 0) (ha_cons he_int ha_nil)))))
  (hss_cons (hs_setIx (i := 10) hu1 rfl (he_lst (ha_cons (he_nm 11) (ha_cons he_int ha_nil))) (he_add rfl (he_nm 1) he_int))
  (hss_cons (hs_setIx (i := 10) hu1 rfl (he_lst (ha_cons (he_nm 12) (ha_cons he_int ha_nil))) (he_add rfl (he_nm 1) he_int))
  (hss_cons (hs_setIx (i := 8) hu1 rfl (he_ix hu1 rfl (he_nm 8) (he_nm 1)) (he_add rfl (he_nm 1) he_int))
  (hss_cons (hs_setIx (i := 8) hu1 rfl (he_ix hu1 rfl (he_nm 8) (he_add rfl (he_nm 1) he_int)) (he_add rfl (he_nm 1) he_int))
  (hss_cons (hs_setIx (i := 9) hu1 rfl (he_index rfl (he_nm 12) (he_add rfl (he_nm 1) he_int)) (he_add rfl (he_nm 1) he_int))
  (hss_cons (hs_for PassesOwn.never rfl (hi_range3 rfl W.b_range (ha_cons (he_sub (he_nm 1) he_int) (ha_cons (he_neg he_int) (ha_cons (he_neg he_int) ha_nil)))) (hg_name (i := 4) sc__law_planted.nd rfl (by first | exact Or.inl rfl | exact Or.inr rfl)) (hss_one (hs_if (ht_ne rfl hu (he_ix hu1 rfl (he_nm 3) (he_nm 4)) he_str) (hss_cons (hs_set (i := 13) sc__law_planted.nd rfl (by first | exact Or.inl rfl | exact Or.inr rfl) (he_call (ok__law_pick W) (hr.mono (by decide)) rfl W.g__law_pick W.F__law_pick.kp (bd__law_pick W) (ha_cons (he_nm 0) (ha_cons (he_nm 3) (ha_cons (he_nm 8) (ha_cons (he_nm 4) ha_nil))))))
  (hss_cons (hs_setIx (i := 10) hu1 rfl (he_lst (ha_cons (he_ix hu1 rfl (he_nm 13) he_int) (ha_cons he_int ha_nil))) (he_nm 4))
  (hss_cons (hs_setIx (i := 8) hu1 rfl (he_ix hu1 rfl (he_nm 13) he_int) (he_nm 4))
  (hss_one (hs_setIx (i := 9) hu1 rfl (he_ix hu1 rfl (he_nm 13) he_int) (he_nm 4)))))) hss_nil)))
  (hss_cons (hs_for PassesOwn.never rfl (hi_range1 rfl W.b_range (ha_cons (he_add rfl (he_nm 1) he_int) ha_nil)) (hg_name (i := 4) sc__law_planted.nd rfl (by first | exact Or.inl rfl | exact Or.inr rfl)) (hss_one (hs_if (ht_eq rfl hu (he_ix hu1 rfl (he_nm 3) (he_nm 4)) he_str) (hss_one (hs_setIx (i := 10) hu1 rfl (he_call (ok__law_letters W) (hr.mono (by decide)) rfl W.g__law_letters W.F__law_letters.kp (bd__law_letters W) (ha_cons (he_nm 0) (ha_cons (he_nm 8) (ha_cons (he_nm 4) ha_nil)))) (he_nm 4))) hss_nil)))
  (hss_cons (hs_set (i := 14) sc__law_planted.nd rfl (by first | exact Or.inl rfl | exact Or.inr rfl) (he_add rfl he_int (he_call (ok__law_take W) (hr.mono (by decide)) rfl W.g__law_take W.F__law_take.kp (bd__law_take W) (ha_cons (he_nm 0) (ha_cons he_int ha_nil)))))
  (hss_cons (hs_setIx (i := 10) hu1 rfl (he_lst (ha_cons (he_mul rfl (he_lst (ha_cons (he_add rfl (he_nm 1) he_int) ha_nil)) (he_nm 14)) (ha_cons (he_nm 14) ha_nil))) (he_add rfl (he_nm 1) he_int))
  (hss_cons (hs_if (ht_eq rfl hu (he_nm 6) he_str) (hss_one (hs_setIx (i := 10) hu1 rfl (he_lst (ha_cons (he_lst ha_nil) (ha_cons (he_add rfl he_int (he_call (ok__law_take W) (hr.mono (by decide)) rfl W.g__law_take W.F__law_take.kp (bd__law_take W) (ha_cons (he_nm 0) (ha_cons he_int ha_nil)))) ha_nil))) (he_add rfl (he_nm 1) he_int))) hss_nil)
  (hss_one (hs_ret hnp (he_call (ok__law_put W) (hr.mono (by decide)) rfl W.g__law_put W.F__law_put.kp (bd__law_put W) (ha_cons (he_nm 0) (ha_cons (he_nm 3) (ha_cons (he_nm 10) (ha_cons (he_nm 8) (ha_cons (he_nm 9) (ha_cons (he_nm 1) ha_nil))))))))))))))))))))))))))))))))))
theorem ok__law_counts (W : Wd K mg) : FnOk P w K mg base CX0 6 W.a__law_counts W.d__law_counts ["pool", "book", "start", "counts", "plan"] (sp K (List.length (α := Str) ["pool", "book", "start", "counts", "plan"]) m__law_counts) := ok_def (N := ["pool", "book", "start", "counts", "plan", "k", "by", "other"]) W.F__law_counts sc__law_counts x__law_counts b__law_counts (by decide) fun cdv A outer s H vs E F0 S0 hr hnp => by
  have hu := hr.units
  have hu1 := units1 hr
  exact (hss_cons (hs_for PassesOwn.never rfl (hi_range1 rfl W.b_range (ha_cons (he_len rfl W.b_len rfl (ha_cons (he_nm 1) ha_nil)) ha_nil)) (hg_name (i := 5) sc__law_counts.nd rfl (by first | exact Or.inl rfl | exact Or.inr rfl)) (hss_one (hs_for PassesOwn.never rfl (hi_seq rfl (he_lst (ha_cons he_int (ha_cons (he_neg he_int) ha_nil)))) (hg_name (i := 6) sc__law_counts.nd rfl (by first | exact Or.inl rfl | exact Or.inr rfl)) (hss_cons (hs_set (i := 7) sc__law_counts.nd rfl (by first | exact Or.inl rfl | exact Or.inr rfl) (he_list rfl W.b_list rfl (ha_cons (he_nm 3) ha_nil)))
  (hss_cons (hs_setIx (i := 7) hu1 rfl (he_add rfl (he_ix hu1 rfl (he_nm 7) (he_nm 5)) (he_nm 6)) (he_nm 5))
  (hss_one (hs_if (ht_not (ht_tru rfl (he_call (ok__law_said W) (hr.mono (by decide)) rfl W.g__law_said W.F__law_said.kp (bd__law_said W) (ha_cons (he_call (ok_is_fit W) (hr.mono (by decide)) rfl W.g_is_fit W.F_is_fit.kp (bd_is_fit W) (ha_cons (he_nm 1) (ha_cons (he_nm 2) (ha_cons (he_tup (ha_cons (he_tuple rfl W.b_tuple rfl (ha_cons (he_nm 7) ha_nil)) (ha_cons (he_nm 4) ha_nil))) ha_nil)))) (ha_cons (he_call (ok__law_fit W) (hr.mono (by decide)) rfl W.g__law_fit W.F__law_fit.kp (bd__law_fit W) (ha_cons (he_nm 1) (ha_cons (he_nm 2) (ha_cons (he_nm 7) (ha_cons (he_nm 4) ha_nil))))) ha_nil))))) (hss_one (hs_ret hnp he_bl)) hss_nil)))))))
  (hss_one (hs_ret hnp he_bl)))
theorem ok__law_plans (W : Wd K mg) : FnOk P w K mg base CX0 6 W.a__law_plans W.d__law_plans ["pool", "book", "start", "counts", "plan"] (sp K (List.length (α := Str) ["pool", "book", "start", "counts", "plan"]) m__law_plans) := ok_def (N := ["pool", "book", "start", "counts", "plan", "k", "number", "other"]) W.F__law_plans sc__law_plans x__law_plans b__law_plans (by decide) fun cdv A outer s H vs E F0 S0 hr hnp => by
  have hu := hr.units
  have hu1 := units1 hr
  exact (hss_cons (hs_for PassesOwn.never rfl (hi_range1 rfl W.b_range (ha_cons (he_len rfl W.b_len rfl (ha_cons (he_nm 1) ha_nil)) ha_nil)) (hg_name (i := 5) sc__law_plans.nd rfl (by first | exact Or.inl rfl | exact Or.inr rfl)) (hss_one (hs_for PassesOwn.never rfl (hi_seq rfl (he_lst (ha_cons (he_neg he_int) (ha_cons (he_neg he_int) (ha_cons he_int (ha_cons he_int (ha_cons he_int (ha_cons (he_len rfl W.b_len rfl (ha_cons (he_ix hu1 rfl (he_ix hu1 rfl (he_nm 1) (he_nm 5)) he_int) ha_nil)) ha_nil)))))))) (hg_name (i := 6) sc__law_plans.nd rfl (by first | exact Or.inl rfl | exact Or.inr rfl)) (hss_cons (hs_set (i := 7) sc__law_plans.nd rfl (by first | exact Or.inl rfl | exact Or.inr rfl) (he_list rfl W.b_list rfl (ha_cons (he_nm 4) ha_nil)))
  (hss_cons (hs_setIx (i := 7) hu1 rfl (he_nm 6) (he_nm 5))
  (hss_one (hs_if (ht_not (ht_tru rfl (he_call (ok__law_said W) (hr.mono (by decide)) rfl W.g__law_said W.F__law_said.kp (bd__law_said W) (ha_cons (he_call (ok_is_fit W) (hr.mono (by decide)) rfl W.g_is_fit W.F_is_fit.kp (bd_is_fit W) (ha_cons (he_nm 1) (ha_cons (he_nm 2) (ha_cons (he_tup (ha_cons (he_nm 3) (ha_cons (he_tuple rfl W.b_tuple rfl (ha_cons (he_nm 7) ha_nil)) ha_nil))) ha_nil)))) (ha_cons (he_call (ok__law_fit W) (hr.mono (by decide)) rfl W.g__law_fit W.F__law_fit.kp (bd__law_fit W) (ha_cons (he_nm 1) (ha_cons (he_nm 2) (ha_cons (he_nm 3) (ha_cons (he_nm 7) ha_nil))))) ha_nil))))) (hss_one (hs_ret hnp he_bl)) hss_nil)))))))
  (hss_one (hs_ret hnp he_bl)))
theorem ok__law_kinds (W : Wd K mg) : FnOk P w K mg base CX0 6 W.a__law_kinds W.d__law_kinds ["pool", "book", "counts", "plan", "even", "end"] (sp K (List.length (α := Str) ["pool", "book", "counts", "plan", "even", "end"]) m__law_kinds) := ok_def (N := ["pool", "book", "counts", "plan", "even", "end", "ones", "noughts", "planned", "wrong", "lap"]) W.F__law_kinds sc__law_kinds x__law_kinds b__law_kinds (by decide) fun cdv A outer s H vs E F0 S0 hr hnp => by
  have hu := hr.units
  have hu1 := units1 hr
  exact (hss_cons (hs_set (i := 6) sc__law_kinds.nd rfl (by first | exact Or.inl rfl | exact Or.inr rfl) (he_list rfl W.b_list rfl (ha_cons (he_nm 2) ha_nil)))
  (hss_cons (hs_setIx (i := 6) hu1 rfl he_bl (he_nm 4))
  (hss_cons (hs_set (i := 7) sc__law_kinds.nd rfl (by first | exact Or.inl rfl | exact Or.inr rfl) (he_list rfl W.b_list rfl (ha_cons (he_nm 2) ha_nil)))
  (hss_cons (hs_setIx (i := 7) hu1 rfl he_bl (he_nm 5))
  (hss_cons (hs_set (i := 8) sc__law_kinds.nd rfl (by first | exact Or.inl rfl | exact Or.inr rfl) (he_list rfl W.b_list rfl (ha_cons (he_nm 3) ha_nil)))
  (hss_cons (hs_setIx (i := 8) hu1 rfl he_non (he_nm 5))
  (hss_cons (hs_set (i := 9) sc__law_kinds.nd rfl (by first | exact Or.inl rfl | exact Or.inr rfl) (he_lst (ha_cons (he_tup (ha_cons (he_list rfl W.b_list rfl (ha_cons (he_nm 2) ha_nil)) (ha_cons (he_nm 3) ha_nil))) (ha_cons (he_tup (ha_cons (he_nm 2) (ha_cons (he_list rfl W.b_list rfl (ha_cons (he_nm 3) ha_nil)) ha_nil))) (ha_cons (he_lst (ha_cons (he_nm 2) (ha_cons (he_nm 3) ha_nil))) (ha_cons (he_tup (ha_cons (he_nm 2) (ha_cons (he_nm 3) (ha_cons (he_nm 3) ha_nil)))) (ha_cons (he_tup (ha_cons (he_nm 2) ha_nil)) (ha_cons he_non (ha_cons (he_nm 2) ha_nil)))))))))
  (hss_cons (hs_set (i := 9) sc__law_kinds.nd rfl (by first | exact Or.inl rfl | exact Or.inr rfl) (he_add rfl (he_nm 9) (he_lst (ha_cons (he_tup (ha_cons (he_slice rfl (he_nm 2) (ho_some he_int) ho_none) (ha_cons (he_slice rfl (he_nm 3) (ho_some he_int) ho_none) ha_nil))) (ha_cons (he_tup (ha_cons (he_add rfl (he_nm 2) (he_tup (ha_cons he_int ha_nil))) (ha_cons (he_add rfl (he_nm 3) (he_tup (ha_cons (he_neg he_int) ha_nil))) ha_nil))) (ha_cons (he_tup (ha_cons (he_tuple rfl W.b_tuple rfl (ha_cons (he_nm 7) ha_nil)) (ha_cons (he_nm 3) ha_nil))) (ha_cons (he_tup (ha_cons (he_nm 2) (ha_cons (he_tuple rfl W.b_tuple rfl (ha_cons (he_nm 8) ha_nil)) ha_nil))) ha_nil)))))))
  (hss_cons (hs_set (i := 9) sc__law_kinds.nd rfl (by first | exact Or.inl rfl | exact Or.inr rfl) (he_add rfl (he_nm 9) (he_lst (ha_cons (he_tup (ha_cons (he_tup ha_nil) (ha_cons (he_tup ha_nil) ha_nil))) (ha_cons (he_tup (ha_cons (he_nm 3) (ha_cons (he_nm 2) ha_nil))) (ha_cons he_str (ha_cons (he_tup (ha_cons he_str (ha_cons (he_tup (ha_cons (he_nm 2) (ha_cons (he_nm 3) ha_nil))) ha_nil))) ha_nil)))))))
  (hss_cons (hs_for PassesOwn.never rfl (hi_range1 rfl W.b_range (ha_cons he_int ha_nil)) (hg_name (i := 10) sc__law_kinds.nd rfl (by first | exact Or.inl rfl | exact Or.inr rfl)) (hss_one (hs_if (ht_isnt (he_call (ok_is_fit W) (hr.mono (by decide)) rfl W.g_is_fit W.F_is_fit.kp (bd_is_fit W) (ha_cons (he_nm 1) (ha_cons (he_nm 4) (ha_cons (he_ix hu1 rfl (he_nm 9) (he_call (ok__law_take W) (hr.mono (by decide)) rfl W.g__law_take W.F__law_take.kp (bd__law_take W) (ha_cons (he_nm 0) (ha_cons (he_len rfl W.b_len rfl (ha_cons (he_nm 9) ha_nil)) ha_nil)))) ha_nil)))) he_bl) (hss_one (hs_ret hnp he_bl)) hss_nil)))
  (hss_cons (hs_if (ht_isnt (he_call (ok_is_fit W) (hr.mono (by decide)) rfl W.g_is_fit W.F_is_fit.kp (bd_is_fit W) (ha_cons (he_nm 1) (ha_cons (he_nm 4) (ha_cons (he_tup (ha_cons (he_tuple rfl W.b_tuple rfl (ha_cons (he_nm 6) ha_nil)) (ha_cons (he_nm 3) ha_nil))) ha_nil)))) he_bl) (hss_one (hs_ret hnp he_bl)) hss_nil)
  (hss_cons (hs_setIx (i := 6) hu1 rfl he_int (he_nm 4))
  (hss_one (hs_ret hnp (he_call (ok__law_said W) (hr.mono (by decide)) rfl W.g__law_said W.F__law_said.kp (bd__law_said W) (ha_cons (he_call (ok_is_fit W) (hr.mono (by decide)) rfl W.g_is_fit W.F_is_fit.kp (bd_is_fit W) (ha_cons (he_nm 1) (ha_cons (he_nm 4) (ha_cons (he_tup (ha_cons (he_tuple rfl W.b_tuple rfl (ha_cons (he_nm 6) ha_nil)) (ha_cons (he_nm 3) ha_nil))) ha_nil)))) (ha_cons (he_call (ok__law_fit W) (hr.mono (by decide)) rfl W.g__law_fit W.F__law_fit.kp (bd__law_fit W) (ha_cons (he_nm 1) (ha_cons (he_nm 4) (ha_cons (he_nm 6) (ha_cons (he_nm 3) ha_nil))))) ha_nil)))))))))))))))))
theorem ok_law (W : Wd K mg) : FnOk P w K mg base CX0 7 W.a_law W.d_law ["script"] (sp K (List.length (α := Str) ["script"]) m_law) := ok_def (N := ["script", "pool", "drawn", "made", "book", "counts", "plan", "start", "times", "more", "count", "other", "picked", "move"]) W.F_law sc_law x_law b_law (by decide) fun cdv A outer s H vs E F0 S0 hr hnp => by
  have hu := hr.units
  have hu1 := units1 hr
  exact (hss_cons (hs_set (i := 1) sc_law.nd rfl (by first | exact Or.inl rfl | exact Or.inr rfl) (he_call (ok__law_pool W) (hr.mono (by decide)) rfl W.g__law_pool W.F__law_pool.kp (bd__law_pool W) (ha_cons (he_nm 0) ha_nil)))
  (hss_cons (hs_set (i := 2) sc_law.nd rfl (by first | exact Or.inl rfl | exact Or.inr rfl) (he_call (ok__law_take W) (hr.mono (by decide)) rfl W.g__law_take W.F__law_take.kp (bd__law_take W) (ha_cons (he_nm 1) (ha_cons he_int ha_nil))))
  (hss_cons (hs_if (ht_eq rfl hu (he_call (ok__law_take W) (hr.mono (by decide)) rfl W.g__law_take W.F__law_take.kp (bd__law_take W) (ha_cons (he_nm 1) (ha_cons he_int ha_nil))) he_int) (hss_one (hs_set (i := 2) sc_law.nd rfl (by first | exact Or.inl rfl | exact Or.inr rfl) he_int)) hss_nil)
  (hss_cons (hs_set (i := 3) sc_law.nd rfl (by first | exact Or.inl rfl | exact Or.inr rfl) (he_call (ok__law_planted W) (hr.mono (by decide)) rfl W.g__law_planted W.F__law_planted.kp (bd__law_planted W) (ha_cons (he_nm 1) (ha_cons (he_nm 2) ha_nil))))
  (hss_cons (hs_asg (he_slice rfl (he_nm 3) ho_none (ho_some he_int)) (hg_tup rfl rfl (hgs_cons (hg_name (i := 4) sc_law.nd rfl (by first | exact Or.inl rfl | exact Or.inr rfl)) (hgs_cons (hg_name (i := 5) sc_law.nd rfl (by first | exact Or.inl rfl | exact Or.inr rfl)) (hgs_cons (hg_name (i := 6) sc_law.nd rfl (by first | exact Or.inl rfl | exact Or.inr rfl)) (hgs_cons (hg_name (i := 7) sc_law.nd rfl (by first | exact Or.inl rfl | exact Or.inr rfl)) hgs_nil))))))
  (hss_cons (hs_if (ht_isnt (he_call (ok_is_fit W) (hr.mono (by decide)) rfl W.g_is_fit W.F_is_fit.kp (bd_is_fit W) (ha_cons (he_nm 4) (ha_cons (he_nm 7) (ha_cons (he_tup (ha_cons (he_nm 5) (ha_cons (he_nm 6) ha_nil))) ha_nil)))) he_bl) (hss_one (hs_ret hnp he_bl)) hss_nil)
  (hss_cons (hs_set (i := 8) sc_law.nd rfl (by first | exact Or.inl rfl | exact Or.inr rfl) (he_add rfl he_int (he_call (ok__law_take W) (hr.mono (by decide)) rfl W.g__law_take W.F__law_take.kp (bd__law_take W) (ha_cons (he_nm 1) (ha_cons (he_pow he_int he_int) ha_nil)))))
  (hss_cons (hs_set (i := 9) sc_law.nd rfl (by first | exact Or.inl rfl | exact Or.inr rfl) (he_tuple rfl W.b_tuple rfl (ha_cons (he_comp (own := [("count", 10)]) rfl sc_law.nd (hi_seq rfl (he_nm 5)) (blkOk_by (by kernel_rfl)) rfl ⟨fun _ _ _ _ _ _ _ _ _ => (hg_name (i := 10) sc_law.nd rfl (by first | exact Or.inl rfl | exact Or.inr rfl)), fun _ _ _ _ _ _ _ _ _ => hts_nil, fun _ _ _ _ _ _ _ _ _ => (he_mul rfl (he_nm 10) (he_nm 8))⟩) ha_nil)))
  (hss_cons (hs_if (ht_isnt (he_call (ok_is_fit W) (hr.mono (by decide)) rfl W.g_is_fit W.F_is_fit.kp (bd_is_fit W) (ha_cons (he_nm 4) (ha_cons (he_nm 7) (ha_cons (he_tup (ha_cons (he_nm 9) (ha_cons (he_nm 6) ha_nil))) ha_nil)))) he_bl) (hss_one (hs_ret hnp he_bl)) hss_nil)
  (hss_cons (hs_for PassesOwn.never rfl (hi_range1 rfl W.b_range (ha_cons (he_len rfl W.b_len rfl (ha_cons (he_nm 4) ha_nil)) ha_nil)) (hg_name (i := 11) sc_law.nd rfl (by first | exact Or.inl rfl | exact Or.inr rfl)) (hss_one (hs_if (ht_not (ht_tru rfl (he_call (ok__law_said W) (hr.mono (by decide)) rfl W.g__law_said W.F__law_said.kp (bd__law_said W) (ha_cons (he_call (ok_is_fit W) (hr.mono (by decide)) rfl W.g_is_fit W.F_is_fit.kp (bd_is_fit W) (ha_cons (he_nm 4) (ha_cons (he_nm 11) (ha_cons (he_tup (ha_cons (he_nm 5) (ha_cons (he_nm 6) ha_nil))) ha_nil)))) (ha_cons (he_gt (he_ix hu1 rfl (he_nm 5) (he_nm 11)) he_int) ha_nil))))) (hss_one (hs_ret hnp he_bl)) hss_nil)))
  (hss_cons (hs_if (ht_isnt (he_call (ok_is_fit W) (hr.mono (by decide)) rfl W.g_is_fit W.F_is_fit.kp (bd_is_fit W) (ha_cons (he_nm 4) (ha_cons (he_nm 7) (ha_cons (he_tup (ha_cons (he_tuple rfl W.b_tuple rfl (ha_cons (he_mul rfl (he_lst (ha_cons he_int ha_nil)) (he_len rfl W.b_len rfl (ha_cons (he_nm 4) ha_nil))) ha_nil)) (ha_cons (he_tuple rfl W.b_tuple rfl (ha_cons (he_mul rfl (he_lst (ha_cons (he_neg he_int) ha_nil)) (he_len rfl W.b_len rfl (ha_cons (he_nm 4) ha_nil))) ha_nil)) ha_nil))) ha_nil)))) he_bl) (hss_one (hs_ret hnp he_bl)) hss_nil)
  (hss_cons (hs_set (i := 12) sc_law.nd rfl (by first | exact Or.inl rfl | exact Or.inr rfl) (he_list rfl W.b_list rfl (ha_cons (he_nm 6) ha_nil)))
  (hss_cons (hs_setIx (i := 12) hu1 rfl (he_index rfl (he_comp (own := [("move", 13)]) rfl sc_law.nd (hi_seq rfl (he_ix hu1 rfl (he_ix hu1 rfl (he_nm 4) (he_ix hu1 rfl (he_nm 3) he_int)) he_int)) (blkOk_by (by kernel_rfl)) rfl ⟨fun _ _ _ _ _ _ _ _ _ => (hg_name (i := 13) sc_law.nd rfl (by first | exact Or.inl rfl | exact Or.inr rfl)), fun _ _ _ _ _ _ _ _ _ => hts_nil, fun _ _ _ _ _ _ _ _ _ => (he_ix hu1 rfl (he_nm 13) he_int)⟩) (he_ix hu1 rfl (he_nm 3) he_int)) (he_ix hu1 rfl (he_nm 3) he_int))
  (hss_cons (hs_if (ht_isnt (he_call (ok_is_fit W) (hr.mono (by decide)) rfl W.g_is_fit W.F_is_fit.kp (bd_is_fit W) (ha_cons (he_nm 4) (ha_cons (he_nm 7) (ha_cons (he_tup (ha_cons (he_nm 5) (ha_cons (he_tuple rfl W.b_tuple rfl (ha_cons (he_nm 12) ha_nil)) ha_nil))) ha_nil)))) he_bl) (hss_one (hs_ret hnp he_bl)) hss_nil)
  (hss_cons (hs_if (PW.pt (ht_or (ht_not (ht_tru rfl (he_call (ok__law_counts W) (hr.mono (by decide)) rfl W.g__law_counts W.F__law_counts.kp (bd__law_counts W) (ha_cons (he_nm 1) (ha_cons (he_nm 4) (ha_cons (he_nm 7) (ha_cons (he_nm 5) (ha_cons (he_nm 6) ha_nil)))))))) (ht_or1 (ht_not (ht_tru rfl (he_call (ok__law_plans W) (hr.mono (by decide)) rfl W.g__law_plans W.F__law_plans.kp (bd__law_plans W) (ha_cons (he_nm 1) (ha_cons (he_nm 4) (ha_cons (he_nm 7) (ha_cons (he_nm 5) (ha_cons (he_nm 6) ha_nil))))))))))) (hss_one (hs_ret hnp he_bl)) hss_nil)
  (hss_one (hs_ret hnp (he_call (ok__law_kinds W) (hr.mono (by decide)) rfl W.g__law_kinds W.F__law_kinds.kp (bd__law_kinds W) (ha_cons (he_nm 1) (ha_cons (he_nm 4) (ha_cons (he_nm 5) (ha_cons (he_nm 6) (ha_cons (he_ix hu1 rfl (he_nm 3) he_int) (ha_cons (he_ix hu1 rfl (he_nm 3) he_int) ha_nil))))))))))))))))))))))))
end

end L_k17

namespace L_k17
open PySem PySem.Spec L2 FR
/-! ### the head -/
def dd_is_integer : He.DefD := ⟨("is_integer", none), "is_integer", "is_integer", defArgs s_is_integer, defBody s_is_integer, defScope s_is_integer, [], []⟩
def dd_is_number : He.DefD := ⟨("is_number", none), "is_number", "is_number", defArgs s_is_number, defBody s_is_number, defScope s_is_number, [], []⟩
def dd_integer_within : He.DefD := ⟨("integer_within", none), "integer_within", "integer_within", defArgs s_integer_within, defBody s_integer_within, defScope s_integer_within, [], []⟩
def dd_is_tuple : He.DefD := ⟨("is_tuple", none), "is_tuple", "is_tuple", defArgs s_is_tuple, defBody s_is_tuple, defScope s_is_tuple, [], []⟩
def dd_are_numbers : He.DefD := ⟨("are_numbers", none), "are_numbers", "are_numbers", defArgs s_are_numbers, defBody s_are_numbers, defScope s_are_numbers, [], []⟩
def dd_is_closed : He.DefD := ⟨("is_closed", none), "is_closed", "is_closed", defArgs s_is_closed, defBody s_is_closed, defScope s_is_closed, [], []⟩
def dd_is_pair_of : He.DefD := ⟨("is_pair_of", none), "is_pair_of", "is_pair_of", defArgs s_is_pair_of, defBody s_is_pair_of, defScope s_is_pair_of, [], []⟩
def dd_fit_pick_holds : He.DefD := ⟨("fit_pick_holds", none), "fit_pick_holds", "fit_pick_holds", defArgs s_fit_pick_holds, defBody s_fit_pick_holds, defScope s_fit_pick_holds, [], []⟩
def dd_is_fit : He.DefD := ⟨("is_fit", none), "is_fit", "is_fit", defArgs s_is_fit, defBody s_is_fit, defScope s_is_fit, [], []⟩
def dd__law_pool : He.DefD := ⟨("_law_pool", none), "_law_pool", "_law_pool", defArgs s__law_pool, defBody s__law_pool, defScope s__law_pool, [], []⟩
def dd__law_take : He.DefD := ⟨("_law_take", none), "_law_take", "_law_take", defArgs s__law_take, defBody s__law_take, defScope s__law_take, [], []⟩
def dd__law_places : He.DefD := ⟨("_law_places", none), "_law_places", "_law_places", defArgs s__law_places, defBody s__law_places, defScope s__law_places, [], []⟩
def dd__law_placed : He.DefD := ⟨("_law_placed", none), "_law_placed", "_law_placed", defArgs s__law_placed, defBody s__law_placed, defScope s__law_placed, [], []⟩
def dd__law_count : He.DefD := ⟨("_law_count", none), "_law_count", "_law_count", defArgs s__law_count, defBody s__law_count, defScope s__law_count, [], []⟩
def dd__law_pick : He.DefD := ⟨("_law_pick", none), "_law_pick", "_law_pick", defArgs s__law_pick, defBody s__law_pick, defScope s__law_pick, [], []⟩
def dd__law_letters : He.DefD := ⟨("_law_letters", none), "_law_letters", "_law_letters", defArgs s__law_letters, defBody s__law_letters, defScope s__law_letters, [], []⟩
def dd__law_planted : He.DefD := ⟨("_law_planted", none), "_law_planted", "_law_planted", defArgs s__law_planted, defBody s__law_planted, defScope s__law_planted, [], []⟩
def dd__law_put : He.DefD := ⟨("_law_put", none), "_law_put", "_law_put", defArgs s__law_put, defBody s__law_put, defScope s__law_put, [], []⟩
def dd__law_fit : He.DefD := ⟨("_law_fit", none), "_law_fit", "_law_fit", defArgs s__law_fit, defBody s__law_fit, defScope s__law_fit, [], []⟩
def dd__law_said : He.DefD := ⟨("_law_said", none), "_law_said", "_law_said", defArgs s__law_said, defBody s__law_said, defScope s__law_said, [], []⟩
def dd__law_counts : He.DefD := ⟨("_law_counts", none), "_law_counts", "_law_counts", defArgs s__law_counts, defBody s__law_counts, defScope s__law_counts, [], []⟩
def dd__law_plans : He.DefD := ⟨("_law_plans", none), "_law_plans", "_law_plans", defArgs s__law_plans, defBody s__law_plans, defScope s__law_plans, [], []⟩
def dd__law_kinds : He.DefD := ⟨("_law_kinds", none), "_law_kinds", "_law_kinds", defArgs s__law_kinds, defBody s__law_kinds, defScope s__law_kinds, [], []⟩
def dd_law : He.DefD := ⟨("law", none), "law", "law", defArgs s_law, defBody s_law, defScope s_law, [], []⟩
def fnL : List He.DefD := [dd_is_integer, dd_is_number, dd_integer_within, dd_is_tuple, dd_are_numbers, dd_is_closed, dd_is_pair_of, dd_fit_pick_holds, dd_is_fit, dd__law_pool, dd__law_take, dd__law_places, dd__law_placed, dd__law_count, dd__law_pick, dd__law_letters, dd__law_planted, dd__law_put, dd__law_fit, dd__law_said, dd__law_counts, dd__law_plans, dd__law_kinds, dd_law]
def faL : List He.Fa := [.glo "is_integer", .glo "is_number", .glo "integer_within", .glo "is_tuple", .glo "are_numbers", .glo "is_closed", .glo "is_pair_of", .glo "fit_pick_holds", .glo "is_fit", .glo "_law_pool", .glo "_law_take", .glo "_law_places", .glo "_law_placed", .glo "_law_count", .glo "_law_pick", .glo "_law_letters", .glo "_law_planted", .glo "_law_put", .glo "_law_fit", .glo "_law_said", .glo "_law_counts", .glo "_law_plans", .glo "_law_kinds", .glo "law", .free "all", .free "bool", .free "enumerate", .free "int", .free "isinstance", .free "len", .free "list", .free "max", .free "min", .free "range", .free "sum", .free "tuple", .free "zip"]
abbrev Rw : PySem.W.OpenRow := PySem.W.OpenLaw.row PySem.Challenge.rw_alwayswritten_k17_is_fit
abbrev hkL : PySem.W.Hook := He.hookD 6 faL fnL
def obL (s : PySem.W.SharedT) : He.AlD := He.obsDG 6 faL fnL (HandSHeadRun.getT s)
theorem obL_eq (s : PySem.W.SharedT) : obL s = hkL.obs s.abs := He.obsDG_eq (HandSHeadRun.getT_eq s)
def looseL : List PySem.Str := ["is_integer", "is_number", "integer_within", "is_tuple", "are_numbers", "is_closed", "is_pair_of", "fit_pick_holds", "is_fit", "_law_pool", "_law_take", "_law_places", "_law_placed", "_law_count", "_law_pick", "_law_letters", "_law_planted", "_law_put", "_law_fit", "_law_said", "_law_counts", "_law_plans", "_law_kinds"]
theorem runL (w : World) : HandSHeadRun.RunEq Rw (PySem.W.view Rw.prog [27]) hkL obL 2000 looseL w := by
  intro os
  kernel_rfl
theorem facts {K : PySem.W.Frag} {h : Heap} {mg : Str → Option Value} {f : Addr} (X : K.In h) (G : h.Ns mainGlobals mg) (hfa : mg ("law" : Str) = some (.ref f)) (c : He.SaysD faL fnL K) : ∃ W : Wd K mg, W.a_law = f := by
  obtain ⟨d0, F0⟩ := c.def_ 0 (d := dd_is_integer) rfl
  obtain ⟨d1, F1⟩ := c.def_ 1 (d := dd_is_number) rfl
  obtain ⟨d2, F2⟩ := c.def_ 2 (d := dd_integer_within) rfl
  obtain ⟨d3, F3⟩ := c.def_ 3 (d := dd_is_tuple) rfl
  obtain ⟨d4, F4⟩ := c.def_ 4 (d := dd_are_numbers) rfl
  obtain ⟨d5, F5⟩ := c.def_ 5 (d := dd_is_closed) rfl
  obtain ⟨d6, F6⟩ := c.def_ 6 (d := dd_is_pair_of) rfl
  obtain ⟨d7, F7⟩ := c.def_ 7 (d := dd_fit_pick_holds) rfl
  obtain ⟨d8, F8⟩ := c.def_ 8 (d := dd_is_fit) rfl
  obtain ⟨d9, F9⟩ := c.def_ 9 (d := dd__law_pool) rfl
  obtain ⟨d10, F10⟩ := c.def_ 10 (d := dd__law_take) rfl
  obtain ⟨d11, F11⟩ := c.def_ 11 (d := dd__law_places) rfl
  obtain ⟨d12, F12⟩ := c.def_ 12 (d := dd__law_placed) rfl
  obtain ⟨d13, F13⟩ := c.def_ 13 (d := dd__law_count) rfl
  obtain ⟨d14, F14⟩ := c.def_ 14 (d := dd__law_pick) rfl
  obtain ⟨d15, F15⟩ := c.def_ 15 (d := dd__law_letters) rfl
  obtain ⟨d16, F16⟩ := c.def_ 16 (d := dd__law_planted) rfl
  obtain ⟨d17, F17⟩ := c.def_ 17 (d := dd__law_put) rfl
  obtain ⟨d18, F18⟩ := c.def_ 18 (d := dd__law_fit) rfl
  obtain ⟨d19, F19⟩ := c.def_ 19 (d := dd__law_said) rfl
  obtain ⟨d20, F20⟩ := c.def_ 20 (d := dd__law_counts) rfl
  obtain ⟨d21, F21⟩ := c.def_ 21 (d := dd__law_plans) rfl
  obtain ⟨d22, F22⟩ := c.def_ 22 (d := dd__law_kinds) rfl
  obtain ⟨d23, F23⟩ := c.def_ 23 (d := dd_law) rfl
  have e := hfa.symm.trans (He.glo_ok X G (c.fact 23 (f := .glo "law") rfl))
  have e2 := Option.some.inj e
  have e3 := (Value.ref.inj e2).symm
  exact ⟨{ a_is_integer := _, d_is_integer := d0, F_is_integer := F0, g_is_integer := He.glo_ok X G (c.fact 0 (f := .glo "is_integer") rfl), a_is_number := _, d_is_number := d1, F_is_number := F1, g_is_number := He.glo_ok X G (c.fact 1 (f := .glo "is_number") rfl), a_integer_within := _, d_integer_within := d2, F_integer_within := F2, g_integer_within := He.glo_ok X G (c.fact 2 (f := .glo "integer_within") rfl), a_is_tuple := _, d_is_tuple := d3, F_is_tuple := F3, g_is_tuple := He.glo_ok X G (c.fact 3 (f := .glo "is_tuple") rfl), a_are_numbers := _, d_are_numbers := d4, F_are_numbers := F4, g_are_numbers := He.glo_ok X G (c.fact 4 (f := .glo "are_numbers") rfl), a_is_closed := _, d_is_closed := d5, F_is_closed := F5, g_is_closed := He.glo_ok X G (c.fact 5 (f := .glo "is_closed") rfl), a_is_pair_of := _, d_is_pair_of := d6, F_is_pair_of := F6, g_is_pair_of := He.glo_ok X G (c.fact 6 (f := .glo "is_pair_of") rfl), a_fit_pick_holds := _, d_fit_pick_holds := d7, F_fit_pick_holds := F7, g_fit_pick_holds := He.glo_ok X G (c.fact 7 (f := .glo "fit_pick_holds") rfl), a_is_fit := _, d_is_fit := d8, F_is_fit := F8, g_is_fit := He.glo_ok X G (c.fact 8 (f := .glo "is_fit") rfl), a__law_pool := _, d__law_pool := d9, F__law_pool := F9, g__law_pool := He.glo_ok X G (c.fact 9 (f := .glo "_law_pool") rfl), a__law_take := _, d__law_take := d10, F__law_take := F10, g__law_take := He.glo_ok X G (c.fact 10 (f := .glo "_law_take") rfl), a__law_places := _, d__law_places := d11, F__law_places := F11, g__law_places := He.glo_ok X G (c.fact 11 (f := .glo "_law_places") rfl), a__law_placed := _, d__law_placed := d12, F__law_placed := F12, g__law_placed := He.glo_ok X G (c.fact 12 (f := .glo "_law_placed") rfl), a__law_count := _, d__law_count := d13, F__law_count := F13, g__law_count := He.glo_ok X G (c.fact 13 (f := .glo "_law_count") rfl), a__law_pick := _, d__law_pick := d14, F__law_pick := F14, g__law_pick := He.glo_ok X G (c.fact 14 (f := .glo "_law_pick") rfl), a__law_letters := _, d__law_letters := d15, F__law_letters := F15, g__law_letters := He.glo_ok X G (c.fact 15 (f := .glo "_law_letters") rfl), a__law_planted := _, d__law_planted := d16, F__law_planted := F16, g__law_planted := He.glo_ok X G (c.fact 16 (f := .glo "_law_planted") rfl), a__law_put := _, d__law_put := d17, F__law_put := F17, g__law_put := He.glo_ok X G (c.fact 17 (f := .glo "_law_put") rfl), a__law_fit := _, d__law_fit := d18, F__law_fit := F18, g__law_fit := He.glo_ok X G (c.fact 18 (f := .glo "_law_fit") rfl), a__law_said := _, d__law_said := d19, F__law_said := F19, g__law_said := He.glo_ok X G (c.fact 19 (f := .glo "_law_said") rfl), a__law_counts := _, d__law_counts := d20, F__law_counts := F20, g__law_counts := He.glo_ok X G (c.fact 20 (f := .glo "_law_counts") rfl), a__law_plans := _, d__law_plans := d21, F__law_plans := F21, g__law_plans := He.glo_ok X G (c.fact 21 (f := .glo "_law_plans") rfl), a__law_kinds := _, d__law_kinds := d22, F__law_kinds := F22, g__law_kinds := He.glo_ok X G (c.fact 22 (f := .glo "_law_kinds") rfl), a_law := _, d_law := d23, F_law := F23, g_law := He.glo_ok X G (c.fact 23 (f := .glo "law") rfl), b_all := He.free_ok X G (c.fact 24 (f := .free "all") rfl), b_bool := He.free_ok X G (c.fact 25 (f := .free "bool") rfl), b_enumerate := He.free_ok X G (c.fact 26 (f := .free "enumerate") rfl), b_int := He.free_ok X G (c.fact 27 (f := .free "int") rfl), b_isinstance := He.free_ok X G (c.fact 28 (f := .free "isinstance") rfl), b_len := He.free_ok X G (c.fact 29 (f := .free "len") rfl), b_list := He.free_ok X G (c.fact 30 (f := .free "list") rfl), b_max := He.free_ok X G (c.fact 31 (f := .free "max") rfl), b_min := He.free_ok X G (c.fact 32 (f := .free "min") rfl), b_range := He.free_ok X G (c.fact 33 (f := .free "range") rfl), b_sum := He.free_ok X G (c.fact 34 (f := .free "sum") rfl), b_tuple := He.free_ok X G (c.fact 35 (f := .free "tuple") rfl), b_zip := He.free_ok X G (c.fact 36 (f := .free "zip") rfl) }, e3⟩
theorem bindsLaw {K : PySem.W.Frag} {mg : Str → Option Value} (W : Wd K mg) (s : Shared) (v : Value) : BindsTo s W.d_law ⟨[v], []⟩ [("script", v)] := FunD.bindsA (ps := ["script"]) W.F_law (fun _ _ _ _ _ _ us hl => match us, hl with | [_], _ => rfl) s [v] rfl
open PySem PySem.W PySem.Calls PyProof.Rows in
theorem holds_of (hm : ∀ ns : List Int, ns.length ≤ 63 → ∃ S', m_law [.d (.lk (ns.map .int))] = .ok (.d (.bl true)) S') : PySem.Challenge.rw_alwayswritten_k17_is_fit.Holds := by
  w_on; o_law
  refine HandSHeadRun.head_any (r := OpenLaw.row PySem.Challenge.rw_alwayswritten_k17_is_fit) (q := view (OpenLaw.row PySem.Challenge.rw_alwayswritten_k17_is_fit).prog [27]) (H := hkL) (ob := obL) (M := 2000) (loose := looseL) (d := HandSHeadRun.topDef (OpenLaw.row PySem.Challenge.rw_alwayswritten_k17_is_fit).prog 27) (kwd := []) obL_eq
    (by kernel_rfl) (fun s => by kernel_rfl) runL (by kernel_rfl) (by kernel_rfl) (by kernel_rfl) (by rfl) (by first | assumption | decide +kernel) (by decide +kernel) ⟨rfl, rfl, rfl, rfl, rfl, by decide +kernel⟩ ?hw ?hc
  case hw => w_witness2
  case hc =>
    refine L2.walk_ofE (l := PySem.Challenge.rw_alwayswritten_k17_is_fit) (n := 63) (k := 7) (x := "script") (CX := L2.CX0) rfl (by decide) (by kernel_rfl) ⟨rfl, by decide, by decide⟩ ?F (fun _ _ _ _ z => z)
    intro w mg fa h Y G hmg0
    obtain ⟨K, KX, c⟩ := Y
    have hmg : mg ("law" : PySem.Str) = some (.ref fa) := by
      have e : (HandSHeadRun.topDef (OpenLaw.row PySem.Challenge.rw_alwayswritten_k17_is_fit).prog 27).name = ("law" : PySem.Str) := by kernel_rfl
      rw [← e]
      exact hmg0
    obtain ⟨W, rfl⟩ := facts KX G hmg c
    exact ⟨K, W.d_law, FR.sp K (List.length (α := PySem.Str) ["script"]) m_law, KX, bindsLaw W, fun H a ns hl _ hS => FR.law_end hm hl hS _, fun base _ _ => ok_law W⟩

end L_k17

namespace L_k17
open PySem PySem.Spec L2 FR
theorem lim_eq : lim = 16000000 := rfl
abbrev pl (p0 p1 : Int) : Option O := some (.own (.lst [.int p0, .int p1]))
structure Pl (p0 p1 : Int) : Prop where
  a0 : 0 ≤ p0
  b1 : 0 ≤ p1
  c1 : p1 < 10 ^ 12
theorem pow18 : powOk 10 18 = true := by decide +kernel
theorem take_ok {p0 p1 many : Int} {Q : O → Sl → Prop} (P : Pl p0 p1) (hm : 0 < many) (hm2 : many < 10 ^ 20)
    (q : ∀ p0' p1' r : Int, Pl p0' p1' → 0 ≤ r → r < many → Q (.d (.int r)) [pl p0' p1', some (.d (.int many))]) : wpM m__law_take [.own (.lst [.int p0, .int p1]), .d (.int many)] Q := by
  unfold m__law_take b__law_take
  have a0 := P.a0
  have b1 := P.b1
  have c1 := P.c1
  have m1 : mulOk p1 40692 = true := mulOk_small (by omega) (by omega)
  obtain ⟨c2, c3⟩ := fmod_b (i := p1 * 40692 + 3607) (j := 2147483399) (by omega)
  have m2 : mulOk ((p1 * 40692 + 3607).fmod 2147483399) 2383 = true := mulOk_small (by omega) (by omega)
  have m3 : divOk 13 = true := divOk_small (by omega) (by omega)
  have m4 : divOk many = true := divOk_small (by omega) (by omega)
  have hm0 : ¬ many = 0 := by omega
  simp? only [x__law_take, m1, m2, m3, m4, hm0]
  exact ⟨fun h => q _ _ _ ⟨fdiv_nn a0 hm, b1, c1⟩ (fmod_b hm).1 (fmod_b hm).2, fun h => q _ _ _ ⟨a0, c2, by omega⟩ (fmod_b hm).1 (fmod_b hm).2⟩
theorem pool_ok {ns : List Int} {Q : O → Sl → Prop} (hl : ns.length ≤ 63) (q : ∀ p0 p1 : Int, Pl p0 p1 → Q (.own (.lst [.int p0, .int p1])) [some (.d (.lk (ns.map .int)))]) : wpM m__law_pool [.d (.lk (ns.map .int))] Q := by
  unfold m__law_pool b__law_pool
  simp? only [x__law_pool, cutD_map]
  generalize hcs : List.take _ (List.drop _ ns) = cs
  refine wp_forE (enc := D.int) (as := cs) (J := fun pre S => ∃ (p0 p1 : Int) (x3 x4 : Option O), 0 ≤ p0 ∧ 0 ≤ p1 ∧ p1 < 10 ^ 11 ∧ S = [some (.d (.lk (ns.map .int))), some (.d (.int p0)), some (.d (.int p1)), x3, x4]) ⟨0, 60013, _, _, by omega, by omega, by omega, rfl⟩ (fun pre c post e S ⟨p0, p1, x3, x4, h1, h2, h3, eS⟩ => ?_) (fun S ⟨p0, p1, x3, x4, h1, h2, h3, eS⟩ => ?_)
  · subst eS
    have m1 : mulOk p1 39373 = true := mulOk_small (by omega) (by omega)
    have fin : ∀ (x : Int) (z p0 : Int), 0 ≤ p0 → ∃ (p0' p1' : Int) (x3 x4 : Option O), 0 ≤ p0' ∧ 0 ≤ p1' ∧ p1' < 10 ^ 11 ∧ [some (O.d (.lk (ns.map .int))), some (.d (.int p0)), some (.d (.int ((p1 * 39373 + x.fmod 2147483647 + 1).fmod 2147483647))), some (.d (.int c)), some (.d (.int z))] = [some (.d (.lk (ns.map .int))), some (.d (.int p0')), some (.d (.int p1')), x3, x4] := fun x z p0 h => ⟨_, _, _, _, h, (fmod_b (by omega)).1, by have := (fmod_b (i := p1 * 39373 + x.fmod 2147483647 + 1) (j := 2147483647) (by omega)).2; omega, rfl⟩
    simp? only [pow18, m1]
    refine ⟨fun hc => ⟨fun h => ⟨fun _ => fin _ _ _ hc, fun _ => fin _ _ _ h1⟩, fun _ => fin _ _ _ h1⟩, fun hc => ⟨fun h => ⟨fun _ => fin _ _ _ (by omega), fun _ => fin _ _ _ h1⟩, fun _ => fin _ _ _ h1⟩⟩
  · subst eS
    simp? only [x__law_pool]
    exact q _ _ ⟨h1, by omega, by omega⟩
end L_k17

namespace L_k17
open PySem PySem.Spec L2 FR
theorem eI_eq (n : Nat) : eI n = .int (n : Int) := rfl
theorem rangeD_nat (n : Nat) : rangeD 0 n = (List.range n).map eI := by
  unfold rangeD
  refine List.map_congr_left fun i _ => ?_
  unfold eI
  rw [Int.zero_add]
theorem snocI (l : List Nat) (i : Nat) : l.map eI ++ [D.int (i : Int)] = (l ++ [i]).map eI := by rw [List.map_append] <;> rfl
theorem erase_map {α β : Type} (f : α → β) : ∀ (l : List α) (k : Nat), (l.map f).eraseIdx k = (l.eraseIdx k).map f
  | [], k => by simp
  | x :: l, 0 => rfl
  | x :: l, k + 1 => by simp [List.eraseIdx_cons_succ, erase_map f l k]
theorem get_eI {f : List Nat} {i x : Nat} (h : f[i]? = some x) : (f.map eI)[i]? = some (.int (x : Int)) := by
  rw [List.getElem?_map, h] <;> rfl
theorem erase_perm {α : Type} : ∀ (l : List α) (k : Nat) (x : α), l[k]? = some x → (x :: l.eraseIdx k).Perm l
  | y :: l, 0, x, h => by cases h; exact List.Perm.refl _
  | y :: l, k + 1, x, h => by
    rw [List.eraseIdx_cons_succ]
    exact (List.Perm.swap y x _).trans ((erase_perm l k x h).cons y)
theorem places_ok {p0 p1 : Int} {n : Nat} {Q : O → Sl → Prop} (P : Pl p0 p1) (hn : n ≤ 1000)
    (q : ∀ (p0' p1' : Int) (od : List Nat), Pl p0' p1' → od.Perm (List.range n) → Q (.own (.lst (od.map eI))) [pl p0' p1', some (.d (.int n))]) : wpM m__law_places [.own (.lst [.int p0, .int p1]), .d (.int n)] Q := by
  unfold m__law_places b__law_places
  have hi : i62 (n : Int) = true := i62_nat (by omega)
  simp? only [x__law_places, hi, Int.toNat_natCast, rangeD_nat]
  refine wp_compP (enc := eI) (as := List.range n) (out := eI) (by rw [List.length_range, lim_eq]; omega) (fun i _ => ?_) ?_
  · simp? only []
  simp? only [hi, Int.toNat_natCast]
  refine wp_forR (J := fun i S => ∃ (p0 p1 : Int) (rest od : List Nat) (x3 : Option O), Pl p0 p1 ∧ (od ++ rest).Perm (List.range n) ∧ od.length = i ∧ S = [pl p0 p1, some (.d (.int n)), some (.own (.lst (rest.map eI))), x3, some (.own (.lst (od.map eI)))]) ⟨_, _, List.range n, [], _, P, List.Perm.refl _, rfl, rfl⟩ (fun i hin S ⟨p0, p1, rest, od, x3, P, hp, hl, e⟩ => ?_) (fun S ⟨p0, p1, rest, od, x3, P, hp, hl, e⟩ => ?_)
  · subst e
    have hlen := hp.length_eq
    rw [List.length_append, List.length_range] at hlen
    have hlim : od.length < lim := by rw [lim_eq]; omega
    simp? only []
    refine take_ok P (by omega) (by omega) fun p0 p1 r P r0 r1 => ?_
    obtain ⟨k, rfl⟩ : ∃ k : Nat, r = k := ⟨r.toNat, by omega⟩
    obtain ⟨x, hx⟩ : ∃ x, rest[k]? = some x := ⟨_, List.getElem?_eq_getElem (by omega)⟩
    have g := get_eI hx
    have hs : seqIndex? (k : Int) rest.length = some k := seqIx_nat (by omega)
    have hk : i62 (k : Int) = true := i62_nat (by omega)
    simp? only [hs, hk, g, hlim]
    refine ⟨p0, p1, rest.eraseIdx k, od ++ [x], _, P, ?_, by simp [hl], by rw [snocI, erase_map]⟩
    rw [List.append_assoc]
    exact ((erase_perm rest k x hx).append_left od).trans hp
  · subst e
    simp? only [x__law_places]
    have hlen := hp.length_eq
    rw [List.length_append, List.length_range] at hlen
    have : rest = [] := List.length_eq_zero_iff.mp (by omega)
    subst this
    rw [List.append_nil] at hp
    exact q _ _ od P hp
end L_k17

namespace L_k17
open PySem PySem.Spec L2 FR
/-! ### books -/
abbrev Mv := Str × Nat
abbrev Std := Str × Int × List Mv
def eM (m : Mv) : D := .tup [.str m.1, .int (m.2 : Nat)]
def eS (s : Std) : D := .tup [.str s.1, .int s.2.1, .tup (s.2.2.map eM)]
theorem get_map {α β : Type} (f : α → β) (l : List α) (i : Nat) (h : i < l.length) : (l.map f)[i]? = some (f l[i]) := by
  rw [List.getElem?_map, List.getElem?_eq_getElem h] <;> rfl
theorem get_eS {b : List Std} {i : Nat} {s : Std} (h : b[i]? = some s) : (b.map eS)[i]? = some (.tup [.str s.1, .int s.2.1, .tup (s.2.2.map eM)]) := by
  rw [List.getElem?_map, h] <;> rfl
theorem get_eM {ms : List Mv} {i : Nat} {m : Mv} (h : ms[i]? = some m) : (ms.map eM)[i]? = some (.tup [.str m.1, .int (m.2 : Nat)]) := by
  rw [List.getElem?_map, h] <;> rfl
/-- a sound book: its goals stand in it, asks are positive, the standings that are no pen's wait for none that waits for them -/
structure Wf (b : List Std) : Prop where
  ln : b.length ≤ 1000
  mv : ∀ s ∈ b, s.2.2.length ≤ 1000
  go : ∀ s ∈ b, ∀ m ∈ s.2.2, m.2 < b.length
  ow : ∀ s ∈ b, s.1 = "pen" ∨ s.1 = "outside" ∨ s.1 = "house"
  ak : ∀ s ∈ b, 1 ≤ s.2.1 ∧ s.2.1 ≤ 10 ^ 12
theorem str_at {l : List Str} {r : Int} (h0 : 0 ≤ r) (h : r < l.length) : ∃ w, w ∈ l ∧ atI (l.map D.str) r = some (.str w) := by
  obtain ⟨x, hx, hx2⟩ := atI_of (xs := l.map D.str) h0 (by rw [List.length_map]; exact h)
  rw [List.getElem?_map] at hx2
  obtain ⟨c, hc, rfl⟩ := Option.map_eq_some_iff.mp hx2
  exact ⟨c, List.mem_of_getElem? hc, hx⟩
theorem int_at {l : List Int} {r : Int} (h0 : 0 ≤ r) (h : r < l.length) : ∃ w, w ∈ l ∧ atI (l.map D.int) r = some (.int w) := by
  obtain ⟨x, hx, hx2⟩ := atI_of (xs := l.map D.int) h0 (by rw [List.length_map]; exact h)
  rw [List.getElem?_map] at hx2
  obtain ⟨c, hc, rfl⟩ := Option.map_eq_some_iff.mp hx2
  exact ⟨c, List.mem_of_getElem? hc, hx⟩
theorem get_str {l : List Str} {i : Nat} {x : Str} (h : l[i]? = some x) : (l.map D.str)[i]? = some (.str x) := by
  rw [List.getElem?_map, h] <;> rfl
theorem perm_get {n : Nat} {od : List Nat} (hp : od.Perm (List.range n)) {k j : Nat} (h : od[k]? = some j) : j < n ∧ k < n ∧ od.idxOf j = k := by
  have h1 := List.mem_of_getElem? h
  have h2 := List.mem_range.mp (hp.mem_iff.mp h1)
  obtain ⟨h3, h4⟩ := List.getElem?_eq_some_iff.mp h
  have h5 := hp.length_eq
  rw [List.length_range] at h5
  refine ⟨h2, by omega, ?_⟩
  subst h4
  exact (hp.nodup_iff.mpr List.nodup_range).idxOf_getElem _ _
theorem perm_at {n : Nat} {od : List Nat} (hp : od.Perm (List.range n)) {j : Nat} (h : j < n) : ∃ k, k < n ∧ od[k]? = some j := by
  have h1 := hp.mem_iff.mpr (List.mem_range.mpr h)
  obtain ⟨k, hk, e⟩ := List.getElem_of_mem h1
  have h5 := hp.length_eq
  rw [List.length_range] at h5
  exact ⟨k, by omega, by rw [List.getElem?_eq_getElem hk, e]⟩
theorem perm_getE {n : Nat} {od : List Nat} (hp : od.Perm (List.range n)) {k : Nat} (h : k < n) : ∃ j, od[k]? = some j ∧ j < n := by
  have h5 := hp.length_eq
  rw [List.length_range] at h5
  have h6 := List.getElem?_eq_getElem (l := od) (i := k) (by omega)
  exact ⟨_, h6, (perm_get hp h6).1⟩
def eO : Option Std → D
  | none => .tup []
  | some s => eS s
theorem all_some {α : Type} : ∀ {l : List (Option α)}, (∀ x ∈ l, ∃ y, x = some y) → ∃ b : List α, l = b.map some
  | [], _ => ⟨[], rfl⟩
  | x :: l, h => by
    obtain ⟨b, e⟩ := all_some (l := l) fun y hy => h y (List.mem_cons_of_mem _ hy)
    obtain ⟨y, rfl⟩ := h x List.mem_cons_self
    exact ⟨y :: b, by rw [e] <;> rfl⟩
/-- all standings stand at their places -/
theorem placed {n : Nat} {od : List Nat} {ms : List Std} {bo : List (Option Std)} (hp : od.Perm (List.range n)) (hm : ms.length = n) (hb : bo.length = n) (pl : ∀ k j : Nat, k < n → od[k]? = some j → bo[j]? = some ms[k]?) : ∃ b : List Std, bo.map eO = b.map eS ∧ b.length = n ∧ ∀ k j : Nat, od[k]? = some j → b[j]? = ms[k]? := by
  obtain ⟨b, rfl⟩ := all_some (l := bo) fun x hx => by
    obtain ⟨j, hj, e⟩ := List.getElem_of_mem hx
    obtain ⟨k, hk, e2⟩ := perm_at hp (show j < n by omega)
    have h := pl k j hk e2
    rw [List.getElem?_eq_getElem hj, e, List.getElem?_eq_getElem (by omega)] at h
    cases h
    exact ⟨_, rfl⟩
  refine ⟨b, by rw [List.map_map] <;> rfl, by rw [List.length_map] at hb; exact hb, fun k j h => ?_⟩
  have h2 := pl k j (perm_get hp h).2.1 h
  rw [List.getElem?_map] at h2
  cases h3 : b[j]? with
  | none => rw [h3] at h2; cases h2
  | some s => rw [h3] at h2; exact Option.some.inj h2
abbrev bk (b : List Std) : Option O := some (.d (.tup (b.map eS)))
def gv (u : List Int) (s : Std) : List Int := s.2.2.map fun m => u.getD m.2 0
def ev (u : List Int) (s : Std) : Int := if s.1 = "house" then maxL (gv u s) else minL (gv u s)
theorem ev_nil {u : List Int} {s : Std} (h : s.2.2 = []) : ev u s = 0 := by
  unfold ev gv
  rw [h]
  simp [maxL, minL]
theorem getD_of {u : List Int} {i : Nat} {x : Int} (h : u[i]? = some x) : u.getD i 0 = x := by
  rw [List.getD_eq_getElem?_getD, h] <;> rfl
theorem get_i {u : List Int} {i : Nat} (h : i < u.length) : (u.map D.int)[i]? = some (.int (u.getD i 0)) := by
  rw [List.getElem?_map, List.getD_eq_getElem?_getD, List.getElem?_eq_getElem h] <;> rfl
theorem gv_map (u : List Int) (s : Std) : s.2.2.map (fun m => D.int (u.getD m.2 0)) = (gv u s).map D.int := by
  unfold gv
  rw [List.map_map] <;> rfl
theorem gv_ne {u : List Int} {s : Std} (h : s.2.2 ≠ []) : gv u s ≠ [] := by
  unfold gv
  simpa using h
theorem gv_len (u : List Int) (s : Std) : (gv u s).length = s.2.2.length := by
  unfold gv
  rw [List.length_map]
abbrev nL (u : List Int) : D := .lst (u.map .int)
end L_k17

namespace L_k17
open PySem PySem.Spec L2 FR
theorem oh : ¬ (Str.ofString "outside") = Str.ofString "house" := by decide +kernel
theorem ho_ : ¬ (Str.ofString "house") = Str.ofString "outside" := by decide +kernel
theorem mulOk_60 {i j : Int} (h1 : -(10 ^ 100) ≤ i ∧ i ≤ 10 ^ 100) (h2 : -(10 ^ 100) ≤ j ∧ j ≤ 10 ^ 100) : mulOk i j = true := by
  have e : (10 : Nat) ^ 100 < 2 ^ 400000 := Nat.lt_of_lt_of_le (show (10 : Nat) ^ 100 < 2 ^ 400 by decide) (Nat.pow_le_pow_right (by decide) (by decide))
  have e2 : ((10 : Nat) ^ 100 : Nat) = ((10 : Int) ^ 100).natAbs := by decide
  refine mulOk_of (Nat.lt_of_le_of_lt ?_ e) (Nat.lt_of_le_of_lt ?_ e) <;> omega
/-! ### numbers -/
/-- the kinds of data that are looked at -/
def okD : D → Bool
  | .non => true
  | .bl _ => true
  | .int _ => true
  | .str _ => true
  | .tup _ => true
  | .lst _ => true
  | _ => false
def isNum : D → Bool
  | .int i => decide (0 ≤ i)
  | _ => false
def areN (n : Nat) : D → Bool
  | .tup xs => decide (xs.length = n) && xs.all isNum
  | _ => false
theorem is_integer_ok {d : D} (h : okD d = true) {Q : O → Sl → Prop} (q : Q (.d (.bl (match d with | .int _ => true | _ => false))) [some (.d d)]) : wpM m_is_integer [.d d] Q := by
  unfold m_is_integer b_is_integer
  cases d <;> first | (cases h; done) | (simp? only [x_is_integer]; exact q)
theorem is_number_ok {d : D} (h : okD d = true) {Q : O → Sl → Prop} (q : Q (.d (.bl (isNum d))) [some (.d d)]) : wpM m_is_number [.d d] Q := by
  unfold m_is_number b_is_number
  simp? only [x_is_number]
  refine is_integer_ok h ?_
  cases d <;> first | (cases h; done) | (simp? only [x_is_number]; exact q)
theorem is_tuple_ok {d : D} (h : okD d = true) {n : Nat} {Q : O → Sl → Prop} (q : Q (.d (.bl (match d with | .tup xs => decide (xs.length = n) | _ => false))) [some (.d d), some (.d (.int n))]) : wpM m_is_tuple [.d d, .d (.int n)] Q := by
  unfold m_is_tuple b_is_tuple
  cases d with
  | tup xs =>
    simp? only [x_is_tuple]
    have e : decide ((xs.length : Int) = n) = decide (xs.length = n) := by
      by_cases z : xs.length = n
      · simp [z]
      · have : ¬ (xs.length : Int) = n := by omega
        rw [decide_eq_false z, decide_eq_false this]
    rw [e]
    exact q
  | _ => first | (cases h; done) | (simp? only [x_is_tuple]; exact q)
theorem are_numbers_ok {d : D} (h : okD d = true) (h2 : ∀ xs, d = .tup xs → xs.length ≤ 10000 ∧ ∀ x ∈ xs, okD x = true) {n : Nat} {Q : O → Sl → Prop} (q : Q (.d (.bl (areN n d))) [some (.d d), some (.d (.int n))]) : wpM m_are_numbers [.d d, .d (.int n)] Q := by
  unfold m_are_numbers b_are_numbers
  simp? only [x_are_numbers]
  refine is_tuple_ok h ?_
  cases d with
  | tup xs =>
    obtain ⟨h3, h4⟩ := h2 xs rfl
    simp? only [x_are_numbers]
    by_cases hl : xs.length = n
    · simp? only [hl, decide_true]
      have e : xs = xs.map id := by rw [List.map_id]
      rw [show wp (compL [2] (gN 2) yesB (callM m_is_number [nm 2]) xs []) = wp (compL [2] (gN 2) yesB (callM m_is_number [nm 2]) (xs.map id) []) by rw [← e]]
      refine wp_compP (enc := id) (as := xs) (out := fun x => .bl (isNum x)) (by rw [lim_eq]; omega) (fun x hx => ?_) ?_
      · simp? only [id]
        refine is_number_ok (h4 x hx) ?_
        simp? only []
      · simp? only [x_are_numbers]
        have e2 : areN n (.tup xs) = xs.all isNum := by show (decide (xs.length = n) && xs.all isNum) = _; rw [decide_eq_true hl, Bool.true_and]
        rw [← e2]
        exact q
    · simp? only [hl, decide_false, x_are_numbers]
      have e2 : areN n (.tup xs) = false := by show (decide (xs.length = n) && xs.all isNum) = _; rw [decide_eq_false hl, Bool.false_and]
      rw [e2] at q
      exact q
  | _ => first | (cases h; done) | (simp? only [x_are_numbers]; exact q)
/-! ### closed counts -/
def mo (x : List Int) (s : Std) : Int := if s.2.2 = [] then 0 else if s.1 = "pen" then (gv x s).sum.fdiv s.2.1 else ev x s
def Clo (b : List Std) (x : List Int) : Prop := ∀ p ∈ x.zip b, p.1 ≤ mo x p.2
theorem Clo_iff {b : List Std} {x : List Int} (hl : x.length = b.length) : Clo b x ↔ ∀ (i : Nat) (s : Std), b[i]? = some s → x.getD i 0 ≤ mo x s := by
  constructor
  · intro h i s hs
    have hi := (List.getElem?_eq_some_iff.mp hs).1
    have hx := List.getElem?_eq_getElem (l := x) (i := i) (by omega)
    rw [getD_of hx]
    exact h (_, s) (List.mem_of_getElem? (i := i) (by rw [List.getElem?_zip_eq_some]; exact ⟨hx, hs⟩))
  · intro h p hp
    obtain ⟨i, hi, e⟩ := List.getElem_of_mem hp
    have h1 : (x.zip b)[i]? = some p := by rw [List.getElem?_eq_getElem hi, e]
    obtain ⟨h2, h3⟩ := List.getElem?_zip_eq_some.mp h1
    have := h i p.2 h3
    rw [getD_of h2] at this
    exact this
def eP (p : Int × Std) : D := .tup [.int p.1, eS p.2]
theorem zip_map (x : List Int) (b : List Std) : zipD (x.map .int) (b.map eS) = (x.zip b).map eP := by
  unfold zipD
  rw [List.zip_map, List.map_map] <;> rfl
theorem areN_ints {x : List Int} {n : Nat} : areN n (.tup (x.map .int)) = true ↔ x.length = n ∧ ∀ y ∈ x, 0 ≤ y := by
  show (decide ((x.map D.int).length = n) && (x.map D.int).all isNum) = true ↔ _
  rw [Bool.and_eq_true, decide_eq_true_eq, List.length_map, List.all_map, List.all_eq_true]
  exact ⟨fun ⟨h1, h2⟩ => ⟨h1, fun y hy => of_decide_eq_true (h2 y hy)⟩, fun ⟨h1, h2⟩ => ⟨h1, fun y hy => decide_eq_true (h2 y hy)⟩⟩
theorem is_closed_bad {b : List Std} {d : D} (h : okD d = true) (h2 : ∀ xs, d = .tup xs → xs.length ≤ 10000 ∧ ∀ x ∈ xs, okD x = true) (h3 : areN b.length d = false) {Q : O → Sl → Prop} (q : Q (.d (.bl false)) [bk b, some (.d d)]) : wpM m_is_closed [.d (.tup (b.map eS)), .d d] Q := by
  unfold m_is_closed b_is_closed
  simp? only [x_is_closed]
  refine are_numbers_ok h h2 ?_
  rw [h3]
  simp? only [x_is_closed, Bool.not_false]
  exact q
theorem ok_ints (x : List Int) (hl : x.length ≤ 10000) : ∀ xs, D.tup (x.map .int) = .tup xs → xs.length ≤ 10000 ∧ ∀ y ∈ xs, okD y = true := fun xs e => by
  cases e
  refine ⟨by rw [List.length_map]; exact hl, fun y hy => ?_⟩
  obtain ⟨z, _, rfl⟩ := List.mem_map.mp hy
  rfl
theorem is_closed_ok {b : List Std} (W : Wf b) {x : List Int} (hl : x.length = b.length) {Q : O → Sl → Prop} (q : ∀ r : Bool, (r = true ↔ (∀ y ∈ x, 0 ≤ y) ∧ Clo b x) → Q (.d (.bl r)) [bk b, some (.d (.tup (x.map .int)))]) : wpM m_is_closed [.d (.tup (b.map eS)), .d (.tup (x.map .int))] Q := by
  have hbl := W.ln
  cases hn : areN b.length (.tup (x.map .int)) with
  | false =>
    refine is_closed_bad rfl (ok_ints x (by omega)) hn (q false ⟨(fun h => by cases h), fun h => ?_⟩)
    have := areN_ints.mpr ⟨hl, h.1⟩
    rw [hn] at this
    cases this
  | true =>
    have hnn := (areN_ints.mp hn).2
    unfold m_is_closed b_is_closed
    simp? only [x_is_closed]
    refine are_numbers_ok rfl (ok_ints x (by omega)) ?_
    rw [hn]
    simp? only [x_is_closed, Bool.not_true, zip_map]
    refine wp_forE (enc := eP) (as := x.zip b) (J := fun pre S => (∀ p ∈ pre, p.1 ≤ mo x p.2) ∧ ∃ (x2 x3 x4 x5 x6 x7 x8 x9 x10 : Option O), S = [bk b, some (.d (.tup (x.map .int))), x2, x3, x4, x5, x6, x7, x8, x9, x10]) ⟨fun p h => by simp at h, _, _, _, _, _, _, _, _, _, rfl⟩ (fun pre p post e S ⟨hpre, x2, x3, x4, x5, x6, x7, x8, x9, x10, eS⟩ => ?_) (fun S ⟨hpre, x2, x3, x4, x5, x6, x7, x8, x9, x10, eS⟩ => ?_)
    · subst eS
      have hpm : p ∈ x.zip b := by rw [e]; simp
      obtain ⟨c, s⟩ := p
      have hsb : s ∈ b := (List.of_mem_zip hpm).2
      obtain ⟨a1, a2⟩ := W.ak s hsb
      have hd : divOk s.2.1 = true := divOk_small (by omega) (by omega)
      have hmv := W.mv s hsb
      have keep : c ≤ mo x s → ∀ p ∈ pre ++ [(c, s)], p.1 ≤ mo x p.2 := fun h p hp => by
        rcases List.mem_append.mp hp with z | z
        · exact hpre p z
        · have : p = (c, s) := by simpa using z
          subst this; exact h
      have bad : ¬ c ≤ mo x s → Q (.d (.bl false)) [bk b, some (.d (.tup (x.map .int)))] := fun h => q false ⟨(fun z => by cases z), fun z => absurd (z.2 _ hpm) h⟩
      unfold eP eS
      simp? only []
      refine wp_compP (enc := eM) (as := s.2.2) (out := fun m => D.int (x.getD m.2 0)) (by rw [lim_eq]; omega) (fun m hm => ?_) ?_
      · have g2 := get_i (u := x) (i := m.2) (by rw [hl]; exact W.go s hsb m hm)
        unfold eM
        simp? only [g2]
      · rw [gv_map]
        have hie : ((gv x s).map D.int).isEmpty = decide (s.2.2 = []) := by
          unfold gv
          cases s.2.2 <;> rfl
        by_cases hnil : s.2.2 = []
        · have hmo : mo x s = 0 := by unfold mo; rw [if_pos hnil]
          simp? only [hie, hnil, decide_true, Bool.not_true, x_is_closed]
          refine ⟨fun h => bad (by omega), fun h => ⟨keep (by omega), _, _, _, _, _, _, _, _, _, rfl⟩⟩
        · have hne := gv_ne (u := x) hnil
          simp? only [hie, hnil, decide_false, Bool.not_false]
          refine ⟨fun hp => ?_, fun hp => ⟨fun hh => ?_, fun hh => ?_⟩⟩
          · have hmo : mo x s = (gv x s).sum.fdiv s.2.1 := by unfold mo; rw [if_neg hnil, if_pos hp]
            simp? only [oSum_own, hd, x_is_closed]
            refine ⟨fun h => bad (by omega), fun h => ⟨keep (by omega), _, _, _, _, _, _, _, _, _, rfl⟩⟩
          · have hmo : mo x s = maxL (gv x s) := by unfold mo ev; rw [if_neg hnil, if_neg hp, if_pos hh]
            simp? only [oMax_L hne, x_is_closed]
            refine ⟨fun h => bad (by omega), fun h => ⟨keep (by omega), _, _, _, _, _, _, _, _, _, rfl⟩⟩
          · have hmo : mo x s = minL (gv x s) := by unfold mo ev; rw [if_neg hnil, if_neg hp, if_neg hh]
            simp? only [oMin_L hne, x_is_closed]
            refine ⟨fun h => bad (by omega), fun h => ⟨keep (by omega), _, _, _, _, _, _, _, _, _, rfl⟩⟩
    · subst eS
      simp? only [x_is_closed]
      exact q true ⟨fun _ => ⟨hnn, hpre⟩, fun _ => rfl⟩
theorem po : ¬ (Str.ofString "pen") = Str.ofString "outside" := by decide +kernel
theorem ph : ¬ (Str.ofString "pen") = Str.ofString "house" := by decide +kernel
theorem le_fdiv {a c t : Int} (ha : 1 ≤ a) : c ≤ t.fdiv a ↔ a * c ≤ t := by
  rw [Int.fdiv_eq_ediv_of_nonneg _ (by omega), Int.le_ediv_iff_mul_le (by omega), Int.mul_comm]
end L_k17

namespace L_k17
open PySem PySem.Spec L2 FR
theorem said_ok {r1 r2 : Bool} (h : r1 = r2) {Q : O → Sl → Prop} (q : Q (.d (.bl true)) [some (.d (.bl r1)), some (.d (.bl r2))]) : wpM m__law_said [.d (.bl r1), .d (.bl r2)] Q := by
  unfold m__law_said b__law_said
  subst h
  cases r1 <;> (simp? only [x__law_said, kBl, decide_true]; exact q)
theorem set_map {α β : Type} (f : α → β) (l : List α) (k : Nat) (x : α) : (l.map f).set k (f x) = (l.set k x).map f := by rw [List.map_set]
theorem sum_ones (u : List Int) (k : Nat) (c : Int) (h : u.getD k 0 = c) (l : List Mv) (hg : ∀ m ∈ l, m.2 = k) : (l.map fun m => u.getD m.2 0).sum = l.length * c := by
  induction l with
  | nil => simp
  | cons m l ih =>
    rw [List.map_cons, List.sum_cons, ih fun x hx => hg x (List.mem_cons_of_mem _ hx), hg m List.mem_cons_self, h, List.length_cons, Int.natCast_add, Int.add_mul]
    omega
abbrev Sg := Str × Int × List Nat
def eG (s : Sg) : D := .tup [.str s.1, .int s.2.1, .lst (s.2.2.map eI)]
def W3 (w : Str) : Prop := w = "pen" ∨ w = "outside" ∨ w = "house"
theorem get_snoc {α : Type} {l : List α} {x y : α} {k : Nat} (h : (l ++ [x])[k]? = some y) : l[k]? = some y ∨ (k = l.length ∧ y = x) := by
  rcases Nat.lt_or_ge k l.length with z | z
  · rw [List.getElem?_append_left z] at h; exact .inl h
  · rw [List.getElem?_append_right z] at h
    rcases Nat.eq_zero_or_pos (k - l.length) with y | y
    · rw [y] at h
      cases h
      exact .inr ⟨by omega, rfl⟩
    · rw [List.getElem?_eq_none (by simp; omega)] at h; cases h
theorem rep_map (n x : Nat) : List.replicate n (D.int (x : Int)) = (List.replicate n x).map eI := by rw [List.map_replicate] <;> rfl
theorem snocG (l : List Sg) (s : Sg) : l.map eG ++ [eG s] = (l ++ [s]).map eG := by rw [List.map_append] <;> rfl
/-- a placed standing and the made one -/
structure Pz (od : List Nat) (sg : Sg) (st : Std) : Prop where
  ow : st.1 = sg.1
  ak : st.2.1 = sg.2.1
  mv : st.2.2.map (·.2) = sg.2.2.map fun g => od.getD g 0
abbrev mno : Str := "mnopqrstuvwxyzabcdefghijkl"
theorem mno_lim : mno.length ≤ lim := by rw [lim_eq]; decide +kernel
theorem mno_at {r : Int} (h0 : 0 ≤ r) (h : r < 26) : ∃ w, atI mno.cps.toList r = some w := by
  obtain ⟨w, hw, _⟩ := atI_of (xs := mno.cps.toList) h0 (by rw [show mno.cps.toList.length = 26 by decide +kernel]; exact h)
  exact ⟨w, hw⟩
theorem snocM (l : List Mv) (m : Mv) : l.map eM ++ [eM m] = (l ++ [m]).map eM := by rw [List.map_append] <;> rfl
theorem placed_ok {p0 p1 : Int} (P : Pl p0 p1) {sgs : List Sg} {n : Nat} (hn : n ≤ 100) (hl : sgs.length = n) (hg : ∀ s ∈ sgs, s.2.2.length ≤ 100 ∧ ∀ g ∈ s.2.2, g < n) {Q : O → Sl → Prop} (q : ∀ (p0 p1 : Int) (b : List Std) (od : List Nat), Pl p0 p1 → od.Perm (List.range n) → b.length = n → (∀ (k j : Nat) (sg : Sg), od[k]? = some j → sgs[k]? = some sg → ∃ st, b[j]? = some st ∧ Pz od sg st) → Q (.own (.lst [.tup (b.map eS), .lst (od.map eI)])) [pl p0 p1, some (.own (.lst (sgs.map eG)))]) : wpM m__law_placed [.own (.lst [.int p0, .int p1]), .own (.lst (sgs.map eG))] Q := by
  unfold m__law_placed b__law_placed
  rw [wpM_fm]
  simp only [slots, List.replicate]
  have hi : i62 (n : Int) = true := i62_nat (by omega)
  have hz := mno_lim
  refine wp_cut (fun S => ∃ (p0 p1 : Int) (od : List Nat), Pl p0 p1 ∧ od.Perm (List.range n) ∧ S = [pl p0 p1, some (.own (.lst (sgs.map eG))), some (.own (.lst (od.map eI))), none, none, none, none, none, none, none, none, none]) ?_ fun S ⟨p0, p1, od, P, hp, e⟩ => ?_
  · simp? only [hl]
    refine places_ok P (by omega) fun p0 p1 od P hp => ?_
    simp? only []
    exact ⟨p0, p1, od, P, hp, rfl⟩
  subst e
  have hod := hp.length_eq
  rw [List.length_range] at hod
  refine wp_cut (fun S => S = [pl p0 p1, some (.own (.lst (sgs.map eG))), some (.own (.lst (od.map eI))), some (.own (.lst ((List.replicate n (("pen", 1, []) : Std)).map eS))), none, none, none, none, none, none, none, none]) ?_ fun S e => ?_
  · simp? only [hl, aMul_rep1 (show n ≤ 1000000 by omega)]
    rw [List.map_replicate] <;> rfl
  subst e
  refine wp_cut (fun S => ∃ (p0 p1 : Int) (b : List Std) (x4 x5 x6 x7 x8 x9 x10 x11 : Option O), Pl p0 p1 ∧ b.length = n ∧ (∀ (k j : Nat) (sg : Sg), k < n → od[k]? = some j → sgs[k]? = some sg → ∃ st, b[j]? = some st ∧ Pz od sg st) ∧ S = [pl p0 p1, some (.own (.lst (sgs.map eG))), some (.own (.lst (od.map eI))), some (.own (.lst (b.map eS))), x4, x5, x6, x7, x8, x9, x10, x11]) ?_ fun S ⟨p0, p1, b, x4, x5, x6, x7, x8, x9, x10, x11, P, hb, hpz, e⟩ => ?_
  · simp? only [hl, hi, Int.toNat_natCast]
    refine wp_forR (J := fun i S => ∃ (p0 p1 : Int) (b : List Std) (x4 x5 x6 x7 x8 x9 x10 x11 : Option O), Pl p0 p1 ∧ b.length = n ∧ (∀ (k j : Nat) (sg : Sg), k < i → od[k]? = some j → sgs[k]? = some sg → ∃ st, b[j]? = some st ∧ Pz od sg st) ∧ S = [pl p0 p1, some (.own (.lst (sgs.map eG))), some (.own (.lst (od.map eI))), some (.own (.lst (b.map eS))), x4, x5, x6, x7, x8, x9, x10, x11]) ⟨p0, p1, _, _, _, _, _, _, _, _, _, P, List.length_replicate, fun k j sg h => by omega, rfl⟩ (fun i hin S ⟨p0, p1, b, x4, x5, x6, x7, x8, x9, x10, x11, P, hb, hpz, e⟩ => ?_) (fun S ⟨p0, p1, b, x4, x5, x6, x7, x8, x9, x10, x11, P, hb, hpz, e⟩ => ⟨rfl, p0, p1, b, x4, x5, x6, x7, x8, x9, x10, x11, P, hb, hpz, e⟩)
    subst e
    obtain ⟨j, hj, hjn⟩ := perm_getE hp hin
    obtain ⟨sg, hsg⟩ : ∃ s, sgs[i]? = some s := ⟨_, List.getElem?_eq_getElem (by omega)⟩
    obtain ⟨hg1, hg2⟩ := hg sg (List.mem_of_getElem? hsg)
    have g1 := get_eI hj
    have g2 : (sgs.map eG)[i]? = some (.tup [.str sg.1, .int sg.2.1, .lst (sg.2.2.map eI)]) := by rw [List.getElem?_map, hsg] <;> rfl
    have g3 : ixN n (j : Int) = some j := ixN_n hjn
    simp only [↓wp_gN, uB_eq, List.set_cons_succ, List.set_cons_zero]
    refine wp_cut (fun S => S = [pl p0 p1, some (.own (.lst (sgs.map eG))), some (.own (.lst (od.map eI))), some (.own (.lst (b.map eS))), some (.d (.int i)), some (.d (.str sg.1)), some (.d (.int sg.2.1)), some (.d (.lst (sg.2.2.map eI))), x8, x9, x10, x11]) ?_ fun S e => ?_
    · simp? only [g2]
    subst e
    refine wp_cut (fun S => ∃ (p0 p1 : Int) (base : Nat), Pl p0 p1 ∧ S = [pl p0 p1, some (.own (.lst (sgs.map eG))), some (.own (.lst (od.map eI))), some (.own (.lst (b.map eS))), some (.d (.int i)), some (.d (.str sg.1)), some (.d (.int sg.2.1)), some (.d (.lst (sg.2.2.map eI))), some (.d (.int base)), x9, x10, x11]) ?_ fun S ⟨p0, p1, base, P, e⟩ => ?_
    · simp? only []
      refine take_ok P (by omega) (by omega) fun p0 p1 r P r0 r1 => ?_
      simp? only []
      exact ⟨p0, p1, r.toNat, P, by rw [Int.toNat_of_nonneg r0]⟩
    subst e
    refine wp_cut (fun S => ∃ (p0 p1 : Int) (bh : Str), Pl p0 p1 ∧ bh.length ≤ 100 ∧ S = [pl p0 p1, some (.own (.lst (sgs.map eG))), some (.own (.lst (od.map eI))), some (.own (.lst (b.map eS))), some (.d (.int i)), some (.d (.str sg.1)), some (.d (.int sg.2.1)), some (.d (.lst (sg.2.2.map eI))), some (.d (.int base)), some (.d (.str bh)), x10, x11]) ?_ fun S ⟨p0, p1, bh, P, hbh, e⟩ => ?_
    · simp? only []
      refine take_ok P (by omega) (by omega) fun p0 p1 r P r0 r1 => ?_
      obtain ⟨w, hw, hw2⟩ := str_at (l := ["", "1", "z9", "abcdefg"]) r0 r1
      simp only [List.map_cons, List.map_nil] at hw2
      simp? only [hw2]
      refine ⟨p0, p1, w, P, ?_, rfl⟩
      have all : ∀ w ∈ ([Str.ofString "", Str.ofString "1", Str.ofString "z9", Str.ofString "abcdefg"] : List Str), w.length ≤ 100 := by decide +kernel
      exact all w hw
    subst e
    refine wp_cut (fun S => S = [pl p0 p1, some (.own (.lst (sgs.map eG))), some (.own (.lst (od.map eI))), some (.own (.lst (b.map eS))), some (.d (.int i)), some (.d (.str sg.1)), some (.d (.int sg.2.1)), some (.d (.lst (sg.2.2.map eI))), some (.d (.int base)), some (.d (.str bh)), some (.own (.lst (([] : List Mv).map eM))), x11]) ?_ fun S e => ?_
    · simp? only []
    subst e
    refine wp_cut (fun S => ∃ (mv : List Mv) (x11 : Option O), mv.map (·.2) = (sg.2.2.map fun g => od.getD g 0) ∧ S = [pl p0 p1, some (.own (.lst (sgs.map eG))), some (.own (.lst (od.map eI))), some (.own (.lst (b.map eS))), some (.d (.int i)), some (.d (.str sg.1)), some (.d (.int sg.2.1)), some (.d (.lst (sg.2.2.map eI))), some (.d (.int base)), some (.d (.str bh)), some (.own (.lst (mv.map eM))), x11]) ?_ fun S ⟨mv, y11, hmv, e⟩ => ?_
    · simp? only []
      refine wp_forE (enc := eI) (as := sg.2.2) (J := fun pre S => ∃ (mv : List Mv) (x11 : Option O), mv.map (·.2) = (pre.map fun g => od.getD g 0) ∧ S = [pl p0 p1, some (.own (.lst (sgs.map eG))), some (.own (.lst (od.map eI))), some (.own (.lst (b.map eS))), some (.d (.int i)), some (.d (.str sg.1)), some (.d (.int sg.2.1)), some (.d (.lst (sg.2.2.map eI))), some (.d (.int base)), some (.d (.str bh)), some (.own (.lst (mv.map eM))), x11]) ⟨[], _, rfl, rfl⟩ (fun pre g post e S ⟨mv, x11, hmv, eS⟩ => ?_) (fun S ⟨mv, x11, hmv, eS⟩ => ⟨rfl, mv, x11, hmv, eS⟩)
      subst eS
      have hgm : g ∈ sg.2.2 := by rw [e]; simp
      obtain ⟨y, hy, _⟩ := perm_getE hp (hg2 g hgm)
      have gy := get_eI hy
      have hml : mv.length = pre.length := by have := congrArg List.length hmv; simpa using this
      have hpl : pre.length < sg.2.2.length := by rw [e]; simp
      have hlim : mv.length < lim := by rw [lim_eq]; omega
      obtain ⟨c0, c1⟩ := fmod_b (i := (base : Int) + (mv.length : Int)) (j := 26) (by omega)
      obtain ⟨ch, hch⟩ := mno_at c0 c1
      have hln : (⟨#[ch]⟩ : Str).length + bh.length ≤ lim := by rw [lim_eq]; show 1 + _ ≤ _; omega
      simp? only [eI_eq, hz, hch, gy, hlim, hln]
      refine ⟨mv ++ [((⟨#[ch]⟩ : Str) ++ bh, y)], some (.d (.int g)), ?_, by rw [← snocM, eM]⟩
      rw [List.map_append, List.map_append, hmv]
      simp only [List.map_cons, List.map_nil]
      rw [List.getD_eq_getElem?_getD, hy]
      rfl
    subst e
    simp? only [g1, hb, g3]
    refine ⟨p0, p1, b.set j ((sg.1, sg.2.1, mv) : Std), _, _, _, _, _, _, _, _, P, by rw [List.length_set]; exact hb, fun k j' sg' hk hj' hsg' => ?_, by rw [List.map_set] <;> rfl⟩
    rcases Nat.lt_or_ge k i with z | z
    · have : j ≠ j' := fun h => by
        subst h
        have h1 := (perm_get hp hj).2.2
        have h2 := (perm_get hp hj').2.2
        omega
      rw [List.getElem?_set_ne this]
      exact hpz k j' sg' z hj' hsg'
    · have : k = i := by omega
      subst this
      rw [hj] at hj'
      cases hj'
      rw [hsg] at hsg'
      cases hsg'
      exact ⟨_, List.getElem?_set_self (by omega), rfl, rfl, hmv⟩
  subst e
  simp? only [x__law_placed]
  exact q p0 p1 b od P hp hb fun k j sg h1 h2 => hpz k j sg (perm_get hp h1).2.1 h1 h2
theorem set_cut {α : Type} (l : List α) (k : Nat) (x : α) (h : k < l.length) : l.take k ++ [x] ++ l.drop (k + 1) = l.set k x := by
  rw [List.set_eq_take_append_cons_drop, if_pos h, List.append_assoc]
  rfl
theorem cut_lo (xs : List D) {k : Nat} (h : k ≤ xs.length) : cutD xs none (some (k : Int)) = xs.take k := by
  unfold cutD
  rw [HT.sIx_none, HT.sIx_nat, Nat.min_eq_left h, List.drop_zero, Nat.sub_zero]
theorem cut_hi (xs : List D) {k : Nat} (h : k ≤ xs.length) : cutD xs (some (k : Int)) none = xs.drop k := by
  unfold cutD
  rw [HT.sIx_none, HT.sIx_nat, Nat.min_eq_left h, List.take_of_length_le (by rw [List.length_drop]; omega)]
theorem gv_mul {u : List Int} {g : Int} {s : Std} : gv (u.map (· * g)) s = (gv u s).map (· * g) := by
  unfold gv
  rw [List.map_map]
  refine List.map_congr_left fun m _ => ?_
  show (u.map (· * g)).getD m.2 0 = u.getD m.2 0 * g
  rw [List.getD_eq_getElem?_getD, List.getD_eq_getElem?_getD, List.getElem?_map]
  cases u[m.2]? with
  | none => simp
  | some x => rfl
theorem sum_mul (g : Int) : ∀ l : List Int, (l.map (· * g)).sum = l.sum * g
  | [] => by simp
  | x :: l => by rw [List.map_cons, List.sum_cons, List.sum_cons, sum_mul g l, Int.add_mul]
theorem clo_mul {b : List Std} (W : Wf b) {u : List Int} (hl : u.length = b.length) (h : Clo b u) {g : Int} (hg : 0 ≤ g) : Clo b (u.map (· * g)) := by
  refine (Clo_iff (by rw [List.length_map]; exact hl)).mpr fun i s hs => ?_
  have h1 := (Clo_iff hl).mp h i s hs
  have a1 := (W.ak s (List.mem_of_getElem? hs)).1
  have e : (u.map (· * g)).getD i 0 = u.getD i 0 * g := by
    rw [List.getD_eq_getElem?_getD, List.getD_eq_getElem?_getD, List.getElem?_map]
    cases u[i]? with
    | none => simp
    | some x => rfl
  rw [e]
  generalize u.getD i 0 = c at h1
  have mul : ∀ x y : Int, x ≤ y → x * g ≤ y * g := fun x y h => Int.mul_le_mul_of_nonneg_right h hg
  unfold mo at h1 ⊢
  by_cases hn : s.2.2 = []
  · rw [if_pos hn] at h1 ⊢
    have := mul c 0 h1
    rw [Int.zero_mul] at this
    exact this
  · rw [if_neg hn] at h1 ⊢
    have ne := gv_ne (u := u) hn
    by_cases hp : s.1 = "pen"
    · rw [if_pos hp] at h1 ⊢
      rw [gv_mul, sum_mul, le_fdiv a1, ← Int.mul_assoc]
      exact mul _ _ ((le_fdiv a1).mp h1)
    · rw [if_neg hp] at h1 ⊢
      unfold ev at h1 ⊢
      rw [gv_mul]
      by_cases hh : s.1 = "house"
      · rw [if_pos hh] at h1 ⊢
        exact Int.le_trans (mul _ _ h1) ((maxL_spec (by simpa using ne)).2 _ (List.mem_map_of_mem (maxL_spec ne).1))
      · rw [if_neg hh] at h1 ⊢
        obtain ⟨y, hy, e⟩ := List.mem_map.mp (minL_spec (ns := (gv u s).map (· * g)) (by simpa using ne)).1
        rw [← e]
        exact mul _ _ (Int.le_trans h1 ((minL_spec ne).2 y hy))
theorem rep_goals {od : List Nat} {n d j : Nat} {st : Std} (hj : od[d]? = some j) (h : st.2.2.map (·.2) = (List.replicate n d).map fun g => od.getD g 0) : st.2.2.length = n ∧ ∀ m ∈ st.2.2, m.2 = j := by
  have hd : od.getD d 0 = j := by rw [List.getD_eq_getElem?_getD, hj] <;> rfl
  rw [List.map_replicate, hd] at h
  refine ⟨?_, fun m hm => ?_⟩
  · have := congrArg List.length h
    simpa using this
  · have h1 : m.2 ∈ st.2.2.map (·.2) := List.mem_map_of_mem hm
    rw [h] at h1
    exact List.eq_of_mem_replicate h1
theorem set_getD {u : List Int} {j : Nat} (h : j < u.length) (x : Int) : (u.set j x).getD j 0 = x := getD_of (List.getElem?_set_self h)
end L_k17

namespace L_k17
open PySem PySem.Spec L2 FR
def isIt : D → Bool
  | .int _ => true
  | _ => false
def tupN (n : Nat) : D → Bool
  | .tup xs => decide (xs.length = n)
  | _ => false
def atD (st : Nat) : D → Int
  | .tup xs => match xs[st]? with
    | some (.int i) => i
    | _ => 0
  | _ => 0
def allIt : D → Bool
  | .tup xs => xs.all isIt
  | _ => false
def pairB (n st : Nat) : D → Bool
  | .tup [x, y] => areN n x && tupN n y && (decide (1 ≤ atD st x) && allIt y)
  | _ => false
/-- data that may be looked at -/
def ok1 (d : D) : Prop := okD d = true ∧ ∀ xs, d = .tup xs → xs.length ≤ 10000 ∧ ∀ x ∈ xs, okD x = true
def ok2 (d : D) : Prop := okD d = true ∧ ∀ x y, d = .tup [x, y] → ok1 x ∧ ok1 y
theorem is_integer_ok' {d : D} (h : okD d = true) {Q : O → Sl → Prop} (q : Q (.d (.bl (isIt d))) [some (.d d)]) : wpM m_is_integer [.d d] Q := by
  refine is_integer_ok h ?_
  cases d <;> first | (cases h; done) | exact q
theorem is_tuple_ok' {d : D} (h : okD d = true) {n : Nat} {Q : O → Sl → Prop} (q : Q (.d (.bl (tupN n d))) [some (.d d), some (.d (.int n))]) : wpM m_is_tuple [.d d, .d (.int n)] Q := by
  refine is_tuple_ok h ?_
  cases d <;> first | (cases h; done) | exact q
theorem areN_at {n st : Nat} {x : D} (h : areN n x = true) (hs : st < n) : ∃ xs i, x = .tup xs ∧ xs[st]? = some (.int i) ∧ atD st x = i := by
  cases x with
  | tup xs =>
    have h' : (decide (xs.length = n) && xs.all isNum) = true := h
    rw [Bool.and_eq_true, decide_eq_true_eq, List.all_eq_true] at h'
    obtain ⟨y, hy⟩ : ∃ y, xs[st]? = some y := ⟨_, List.getElem?_eq_getElem (by omega)⟩
    have := h'.2 y (List.mem_of_getElem? hy)
    cases y with
    | int i => exact ⟨xs, i, rfl, hy, by show (match xs[st]? with | some (.int i) => i | _ => 0) = i; rw [hy]⟩
    | _ => cases this
  | _ => cases h
theorem two_int : (2 : Int) = ((2 : Nat) : Int) := rfl
theorem is_pair_ok {b : List Std} {st : Nat} (hb : b.length ≤ 10000) (hs : st < b.length) {d : D} (h : ok2 d) {Q : O → Sl → Prop} (q : Q (.d (.bl (pairB b.length st d))) [bk b, some (.d (.int st)), some (.d d)]) : wpM m_is_pair_of [.d (.tup (b.map eS)), .d (.int st), .d d] Q := by
  unfold m_is_pair_of b_is_pair_of
  simp? only [x_is_pair_of]
  rw [two_int]
  refine is_tuple_ok' h.1 ?_
  cases h2 : tupN 2 d with
  | false =>
    have e : pairB b.length st d = false := by
      cases d with
      | tup xs =>
        rcases xs with _ | ⟨x, _ | ⟨y, _ | ⟨z, xs⟩⟩⟩
        · rfl
        · rfl
        · cases h2
        · rfl
      | _ => rfl
    rw [e] at q
    simp? only [x_is_pair_of, Bool.not_false]
    exact q
  | true =>
    obtain ⟨x, y, rfl⟩ : ∃ x y, d = .tup [x, y] := by
      cases d with
      | tup xs =>
        rcases xs with _ | ⟨x, _ | ⟨y, _ | ⟨z, xs⟩⟩⟩
        · cases h2
        · cases h2
        · exact ⟨x, y, rfl⟩
        · have : (decide ((x :: y :: z :: xs).length = 2)) = true := h2
          simp at this
      | _ => cases h2
    obtain ⟨ox, oy⟩ := h.2 x y rfl
    have e : pairB b.length st (.tup [x, y]) = (areN b.length x && tupN b.length y && (decide (1 ≤ atD st x) && allIt y)) := rfl
    rw [e] at q
    simp? only [Bool.not_true]
    refine are_numbers_ok ox.1 ox.2 ?_
    cases h3 : areN b.length x with
    | false =>
      rw [h3, Bool.false_and, Bool.false_and] at q
      simp? only [x_is_pair_of, Bool.not_false]
      exact q
    | true =>
      rw [h3, Bool.true_and] at q
      simp? only [Bool.not_true]
      refine is_tuple_ok' oy.1 ?_
      cases h4 : tupN b.length y with
      | false =>
        rw [h4, Bool.false_and] at q
        simp? only [x_is_pair_of, Bool.not_false]
        exact q
      | true =>
        rw [h4, Bool.true_and] at q
        obtain ⟨xs, i, rfl, hi, hai⟩ := areN_at h3 hs
        rw [hai] at q
        cases y with
        | tup ys =>
          have g : atI xs (st : Int) = some (.int i) := (atI_n _ _).trans hi
          simp? only [Bool.not_true, g, x_is_pair_of]
          obtain ⟨o1, o2⟩ := oy.2 ys rfl
          by_cases h1 : 1 ≤ i
          · rw [decide_eq_true h1, Bool.true_and] at q
            simp? only [h1, decide_true]
            have e1 : ys = ys.map id := by rw [List.map_id]
            rw [show wp (compL [3] (gN 3) yesB (callM m_is_integer [nm 3]) ys []) = wp (compL [3] (gN 3) yesB (callM m_is_integer [nm 3]) (ys.map id) []) by rw [← e1]]
            refine wp_compP (enc := id) (as := ys) (out := fun x => .bl (isIt x)) (by rw [lim_eq]; omega) (fun z hz => ?_) ?_
            · simp? only [id]
              refine is_integer_ok' (o2 z hz) ?_
              simp? only []
            · simp? only [x_is_pair_of]
              exact q
          · rw [decide_eq_false h1, Bool.false_and] at q
            simp? only [h1, decide_false, x_is_pair_of]
            exact q
        | _ => cases h4
/-! ### the pick holds -/
def Pk (u : List Int) (s : Std) (c m : Int) : Prop := if s.1 ≠ "house" ∨ c < 1 then m = -1 else 0 ≤ m ∧ m < s.2.2.length ∧ ∃ mv : Mv, s.2.2[m.toNat]? = some mv ∧ c ≤ u.getD mv.2 0
theorem within_ok {i lo hi : Int} {Q : O → Sl → Prop} (q : Q (.d (.bl (decide (lo ≤ i) && decide (i ≤ hi)))) [some (.d (.int i)), some (.d (.int lo)), some (.d (.int hi))]) : wpM m_integer_within [.d (.int i), .d (.int lo), .d (.int hi)] Q := by
  unfold m_integer_within b_integer_within
  simp? only [x_integer_within]
  refine is_integer_ok' rfl ?_
  simp? only [isIt, x_integer_within]
  by_cases h : lo ≤ i
  · simp? only [h, decide_true, x_integer_within]
    rw [decide_eq_true h, Bool.true_and] at q
    exact q
  · simp? only [h, decide_false, x_integer_within]
    rw [decide_eq_false h, Bool.false_and] at q
    exact q
theorem holds_ok {b : List Std} (W : Wf b) {u : List Int} (hu : u.length = b.length) {s : Std} (hs : s ∈ b) {c m : Int} {Q : O → Sl → Prop} (q : ∀ r : Bool, (r = true ↔ Pk u s c m) → Q (.d (.bl r)) [some (.d (.tup (u.map .int))), some (.d (eS s)), some (.d (.int c)), some (.d (.int m))]) : wpM m_fit_pick_holds [.d (.tup (u.map .int)), .d (eS s), .d (.int c), .d (.int m)] Q := by
  unfold m_fit_pick_holds b_fit_pick_holds
  have hmv := W.mv s hs
  unfold eS at q ⊢
  simp? only [x_fit_pick_holds]
  have no : (s.1 ≠ "house" ∨ c < 1) → Q (.d (.bl (decide (m = -1)))) [some (.d (.tup (u.map .int))), some (.d (.tup [.str s.1, .int s.2.1, .tup (s.2.2.map eM)])), some (.d (.int c)), some (.d (.int m))] := fun h => q _ (by unfold Pk; rw [if_pos h, decide_eq_true_eq])
  refine ⟨fun h => no (.inl h), fun h => ⟨fun h2 => no (.inr h2), fun h2 => ?_⟩⟩
  have hn : ¬ (s.1 ≠ "house" ∨ c < 1) := fun z => z.elim (fun z => z h) h2
  refine within_ok ?_
  by_cases hw : 0 ≤ m ∧ m ≤ (s.2.2.length : Int) - 1
  · obtain ⟨k, rfl⟩ : ∃ k : Nat, m = k := ⟨m.toNat, by omega⟩
    obtain ⟨mv, hmv2⟩ : ∃ mv, s.2.2[k]? = some mv := ⟨_, List.getElem?_eq_getElem (by omega)⟩
    have g1 := get_eM hmv2
    have g2 := get_i (u := u) (i := mv.2) (by rw [hu]; exact W.go s hs mv (List.mem_of_getElem? hmv2))
    simp? only [hw.1, hw.2, decide_true, Bool.and_self, g1, g2, x_fit_pick_holds]
    refine q _ ?_
    unfold Pk
    rw [if_neg hn, decide_eq_true_eq, Int.toNat_natCast]
    exact ⟨fun h => ⟨by omega, by omega, mv, hmv2, h⟩, fun ⟨_, _, mv', h3, h4⟩ => by rw [hmv2] at h3; cases h3; exact h4⟩
  · have e : (decide (0 ≤ m) && decide (m ≤ (s.2.2.length : Int) - 1)) = false := by
      rw [Bool.and_eq_false_iff, decide_eq_false_iff_not, decide_eq_false_iff_not]
      by_cases h : 0 ≤ m
      · exact .inr fun z => hw ⟨h, z⟩
      · exact .inl h
    rw [e]
    simp? only [x_fit_pick_holds]
    refine q _ ?_
    unfold Pk
    rw [if_neg hn]
    exact ⟨(fun h => by cases h), fun ⟨h3, h4, _⟩ => absurd ⟨h3, by omega⟩ hw⟩
/-! ### a fit -/
structure FitP (b : List Std) (st : Nat) (u v : List Int) : Prop where
  nn : ∀ y ∈ u, 0 ≤ y
  st : 1 ≤ u.getD st 0
  cl : Clo b u
  pk : ∀ (i : Nat) (s : Std), b[i]? = some s → Pk u s (u.getD i 0) (v.getD i 0)
theorem is_fit_bad {b : List Std} {st : Nat} (hb : b.length ≤ 10000) (hs : st < b.length) {d : D} (h : ok2 d) (h2 : pairB b.length st d = false) {Q : O → Sl → Prop} (q : Q (.d (.bl false)) [bk b, some (.d (.int st)), some (.d d)]) : wpM m_is_fit [.d (.tup (b.map eS)), .d (.int st), .d d] Q := by
  unfold m_is_fit b_is_fit
  simp? only [x_is_fit]
  refine is_pair_ok hb hs h ?_
  rw [h2]
  simp? only [x_is_fit, Bool.not_false]
  exact q
abbrev pr2 (u v : List Int) : D := .tup [.tup (u.map .int), .tup (v.map .int)]
theorem ok1_ints (x : List Int) (hl : x.length ≤ 10000) : ok1 (.tup (x.map .int)) := ⟨rfl, ok_ints x hl⟩
theorem is_fit_ok {b : List Std} (W : Wf b) {st : Nat} (hs : st < b.length) {u v : List Int} (hu : u.length = b.length) (hv : v.length = b.length) {Q : O → Sl → Prop} (q : ∀ r : Bool, (r = true ↔ FitP b st u v) → Q (.d (.bl r)) [bk b, some (.d (.int st)), some (.d (pr2 u v))]) : wpM m_is_fit [.d (.tup (b.map eS)), .d (.int st), .d (pr2 u v)] Q := by
  have hbl := W.ln
  have ok : ok2 (pr2 u v) := ⟨rfl, fun x y e => by cases e; exact ⟨ok1_ints u (by omega), ok1_ints v (by omega)⟩⟩
  have hat : atD st (.tup (u.map .int)) = u.getD st 0 := by
    show (match (u.map D.int)[st]? with | some (.int i) => i | _ => 0) = _
    rw [get_i (by omega)]
  have e : pairB b.length st (pr2 u v) = (areN b.length (.tup (u.map .int)) && decide (1 ≤ u.getD st 0)) := by
    show (areN b.length (.tup (u.map .int)) && tupN b.length (.tup (v.map .int)) && (decide (1 ≤ atD st (.tup (u.map .int))) && allIt (.tup (v.map .int)))) = _
    have e1 : tupN b.length (.tup (v.map .int)) = true := by show decide _ = true; rw [List.length_map]; exact decide_eq_true hv
    have e2 : allIt (.tup (v.map .int)) = true := by show (v.map D.int).all isIt = true; rw [List.all_map]; exact List.all_eq_true.mpr fun _ _ => rfl
    rw [e1, e2, hat, Bool.and_true, Bool.and_true]
  cases hp : pairB b.length st (pr2 u v) with
  | false =>
    refine is_fit_bad (by omega) hs ok hp (q false ⟨(fun h => by cases h), fun F => ?_⟩)
    rw [e, areN_ints.mpr ⟨hu, F.nn⟩, decide_eq_true F.st] at hp
    cases hp
  | true =>
    rw [e, Bool.and_eq_true, decide_eq_true_eq] at hp
    obtain ⟨hp1, hp2⟩ := hp
    have hnn := (areN_ints.mp hp1).2
    unfold m_is_fit b_is_fit
    simp? only [x_is_fit]
    refine is_pair_ok (by omega) hs ok ?_
    rw [e, hp1, decide_eq_true hp2]
    simp? only [Bool.not_true, Bool.and_self]
    refine is_closed_ok W hu fun r hr => ?_
    cases r with
    | false =>
      simp? only [Bool.not_false, x_is_fit]
      exact q false ⟨(fun h => by cases h), fun F => absurd (hr.mpr ⟨F.nn, F.cl⟩) (by decide)⟩
    | true =>
      have hcl := (hr.mp rfl).2
      simp? only [Bool.not_true, enum_map]
      refine wp_forE (as := b.zipIdx) (enc := fun p => .tup [.int (p.2 : Nat), eS p.1]) (J := fun pre S => (∀ (i : Nat) (s : Std), i < pre.length → b[i]? = some s → Pk u s (u.getD i 0) (v.getD i 0)) ∧ ∃ (x5 x6 : Option O), S = [bk b, some (.d (.int st)), some (.d (pr2 u v)), some (.d (.tup (u.map .int))), some (.d (.tup (v.map .int))), x5, x6]) ⟨fun i s h => by simp at h, _, _, rfl⟩ (fun pre p post e S ⟨hpre, x5, x6, eS⟩ => ?_) (fun S ⟨hpre, x5, x6, eS⟩ => ?_)
      · subst eS
        have hp2 : p.2 = pre.length ∧ b[pre.length]? = some p.1 := by
          have h1 : b.zipIdx[pre.length]? = some p := by rw [e, List.getElem?_append_right (Nat.le_refl _), Nat.sub_self] <;> rfl
          rw [List.getElem?_zipIdx] at h1
          cases h2 : b[pre.length]? with
          | none => rw [h2] at h1; cases h1
          | some s => rw [h2] at h1; cases h1; exact ⟨by simp, rfl⟩
        obtain ⟨hp2, hsi⟩ := hp2
        obtain ⟨s, k⟩ := p
        dsimp only at hp2 hsi ⊢
        subst hp2
        have hi := (List.getElem?_eq_some_iff.mp hsi).1
        have gu := get_i (u := u) (i := pre.length) (by omega)
        have gv' := get_i (u := v) (i := pre.length) (by omega)
        simp? only [gu, gv']
        refine holds_ok W hu (List.mem_of_getElem? hsi) fun r hr => ?_
        cases r with
        | false =>
          simp? only [Bool.not_false, x_is_fit]
          exact q false ⟨(fun h => by cases h), fun F => absurd (hr.mpr (F.pk _ s hsi)) (by decide)⟩
        | true =>
          simp? only [Bool.not_true]
          refine ⟨fun i s' h1 h2 => ?_, _, _, rfl⟩
          rw [List.length_append, List.length_singleton] at h1
          rcases Nat.lt_or_ge i pre.length with z | z
          · exact hpre i s' z h2
          · have : i = pre.length := by omega
            subst this
            rw [hsi] at h2
            cases h2
            exact hr.mp rfl
      · subst eS
        rw [List.length_zipIdx] at hpre
        simp? only [x_is_fit]
        exact q true ⟨fun _ => ⟨hnn, hp2, hcl, fun i s h => hpre i s (List.getElem?_eq_some_iff.mp h).1 h⟩, fun _ => rfl⟩
end L_k17

namespace L_k17
open PySem PySem.Spec L2 FR
/-- what a row of numbers is read from -/
structure Rd (u : List Int) (r : O) : Prop where
  ix : ∀ i : Int, aIx r (.d (.int i)) = (atI (u.map D.int) i).map .d
  mn : u ≠ [] → oMin r = some (.d (.int (minL u)))
theorem Rd_o (u : List Int) : Rd u (.own (.lst (u.map .int))) := ⟨fun i => aIx_l _ i, fun h => oMin_L h⟩
theorem Rd_t (u : List Int) : Rd u (.d (.tup (u.map .int))) := ⟨fun i => aIx_t _ i, fun h => oMin_T h⟩
theorem min_neg {u : List Int} (h : u ≠ []) : minL u < 0 ↔ ¬ ∀ y ∈ u, 0 ≤ y := by
  obtain ⟨h1, h2⟩ := minL_spec h
  constructor
  · intro z w
    have := w _ h1
    omega
  · intro z
    rcases Int.lt_or_le (minL u) 0 with w | w
    · exact w
    · exact absurd (fun y hy => Int.le_trans w (h2 y hy)) z
theorem law_fit_ok {b : List Std} (W : Wf b) {st : Nat} (hs : st < b.length) {u v : List Int} (hu : u.length = b.length) (hv : v.length = b.length) (hx : ∀ y ∈ u, -(10 ^ 100) ≤ y ∧ y ≤ 10 ^ 100) {ru rv : O} (Ru : Rd u ru) (Rv : Rd v rv) {Q : O → Sl → Prop} (q : ∀ r : Bool, (r = true ↔ FitP b st u v) → Q (.d (.bl r)) [bk b, some (.d (.int st)), some ru, some rv]) : wpM m__law_fit [.d (.tup (b.map eS)), .d (.int st), ru, rv] Q := by
  have hbl := W.ln
  have hne : u ≠ [] := List.ne_nil_of_length_pos (by omega)
  have hi : i62 (b.length : Int) = true := i62_nat (by omega)
  have gst := get_i (u := u) (i := st) (by omega)
  unfold m__law_fit b__law_fit
  simp? only [x__law_fit, Ru.mn hne, Ru.ix, gst]
  refine ⟨fun h => q false ⟨(fun h => by cases h), fun F => absurd F.nn ((min_neg hne).mp h)⟩, fun h => ⟨fun h1 => q false ⟨(fun h => by cases h), fun F => by have := F.st; omega⟩, fun h1 => ?_⟩⟩
  have hnn : ∀ y ∈ u, 0 ≤ y := Classical.not_not.mp fun z => h ((min_neg hne).mpr z)
  simp? only [hi, Int.toNat_natCast]
  refine wp_forR (J := fun i S => (∀ (k : Nat) (s : Std), k < i → b[k]? = some s → u.getD k 0 ≤ mo u s ∧ Pk u s (u.getD k 0) (v.getD k 0)) ∧ ∃ (x4 x5 x6 x7 x8 x9 : Option O), S = [bk b, some (.d (.int st)), some ru, some rv, x4, x5, x6, x7, x8, x9]) ⟨fun k s h => by omega, _, _, _, _, _, _, rfl⟩ (fun i hin S ⟨hpre, x4, x5, x6, x7, x8, x9, eS⟩ => ?_) (fun S ⟨hpre, x4, x5, x6, x7, x8, x9, eS⟩ => ?_)
  · subst eS
    obtain ⟨s, hsi⟩ : ∃ s, b[i]? = some s := ⟨_, List.getElem?_eq_getElem hin⟩
    have hsb := List.mem_of_getElem? hsi
    obtain ⟨a1, a2⟩ := W.ak s hsb
    have hmv := W.mv s hsb
    have g1 := get_eS hsi
    have gx := get_i (u := u) (i := i) (by omega)
    have gp := get_i (u := v) (i := i) (by omega)
    have hci : u.getD i 0 ∈ u := by
      have h := List.getElem?_eq_getElem (l := u) (i := i) (by omega)
      rw [getD_of h]
      exact List.mem_of_getElem? h
    have hc0 := hnn _ hci
    have hmul : mulOk s.2.1 (u.getD i 0) = true := mulOk_60 (by omega) (hx _ hci)
    have goal0 : ∀ k : Nat, 0 ≤ u.getD k 0 := fun k => by
      rcases Nat.lt_or_ge k u.length with z | z
      · rw [getD_of (List.getElem?_eq_getElem z)]
        exact hnn _ (List.getElem_mem _)
      · rw [List.getD_eq_getElem?_getD, List.getElem?_eq_none z]; exact Int.le_refl _
    have bad : ¬ (u.getD i 0 ≤ mo u s ∧ Pk u s (u.getD i 0) (v.getD i 0)) → Q (.d (.bl false)) [bk b, some (.d (.int st)), some ru, some rv] := fun h => q false ⟨(fun z => by cases z), fun F => absurd ⟨(Clo_iff hu).mp F.cl i s hsi, F.pk i s hsi⟩ h⟩
    have keep : (u.getD i 0 ≤ mo u s ∧ Pk u s (u.getD i 0) (v.getD i 0)) → ∀ (k : Nat) (s : Std), k < i + 1 → b[k]? = some s → u.getD k 0 ≤ mo u s ∧ Pk u s (u.getD k 0) (v.getD k 0) := fun h k s' hk hs' => by
      rcases Nat.lt_or_ge k i with z | z
      · exact hpre k s' z hs'
      · have : k = i := by omega
        subst this
        rw [hsi] at hs'
        cases hs'
        exact h
    generalize u.getD i 0 = c at gx hci hc0 hmul bad keep
    generalize v.getD i 0 = m at gp bad keep
    have nilc : ¬ (s.2.2.length : Int) = 0 → s.2.2 ≠ [] := fun h z => h (by rw [z] <;> rfl)
    simp only [↓wp_gN, uB_eq, List.set_cons_succ, List.set_cons_zero]
    refine wp_cut (fun S => S = [bk b, some (.d (.int st)), some ru, some rv, some (.d (.int i)), some (.d (.str s.1)), some (.d (.int s.2.1)), some (.d (.tup (s.2.2.map eM))), x8, x9]) ?_ fun S e => ?_
    · simp? only [g1]
    subst e
    refine wp_cut (fun S => ∃ x9, S = [bk b, some (.d (.int st)), some ru, some rv, some (.d (.int i)), some (.d (.str s.1)), some (.d (.int s.2.1)), some (.d (.tup (s.2.2.map eM))), some (.own (.lst ((gv u s).map .int))), x9]) ?_ fun S ⟨y9, e⟩ => ?_
    · simp? only []
      refine wp_compP (enc := eM) (as := s.2.2) (out := fun m => D.int (u.getD m.2 0)) (by rw [lim_eq]; omega) (fun m hm => ?_) ?_
      · have g2 := get_i (u := u) (i := m.2) (by rw [hu]; exact W.go s hsb m hm)
        unfold eM
        simp? only [Ru.ix, g2]
      · rw [gv_map]
        simp? only []
        exact ⟨_, rfl⟩
    subst e
    refine wp_cutR (fun S => (s.2.2 = [] → c ≤ 0) ∧ S = [bk b, some (.d (.int st)), some ru, some rv, some (.d (.int i)), some (.d (.str s.1)), some (.d (.int s.2.1)), some (.d (.tup (s.2.2.map eM))), some (.own (.lst ((gv u s).map .int))), y9]) ?_ fun S ⟨hn0, e⟩ => ?_
    · simp? only [Ru.ix, gx, gv_len, x__law_fit]
      refine ⟨fun h => ⟨fun h0 => bad fun z => ?_, fun h0 => fun _ => by omega⟩, fun h => fun z => absurd z (nilc h)⟩
      have := z.1
      unfold mo at this
      rw [if_pos (List.length_eq_zero_iff.mp (by omega))] at this
      omega
    subst e
    refine wp_cutR (fun S => Pk u s c m ∧ S = [bk b, some (.d (.int st)), some ru, some rv, some (.d (.int i)), some (.d (.str s.1)), some (.d (.int s.2.1)), some (.d (.tup (s.2.2.map eM))), some (.own (.lst ((gv u s).map .int))), y9]) ?_ fun S ⟨hpk, e⟩ => ?_
    · by_cases hw : s.1 = "house" ∧ 0 < c
      · have isH : Pk u s c m ↔ 0 ≤ m ∧ m < s.2.2.length ∧ ∃ mv : Mv, s.2.2[m.toNat]? = some mv ∧ c ≤ u.getD mv.2 0 := by
          unfold Pk
          rw [if_neg (fun z => z.elim (fun z => z hw.1) (fun z => by have := hw.2; omega))]
        have hc := hw.2
        simp? only [Ru.ix, Rv.ix, gx, gp, gv_len, hw.1, hc, decide_true, x__law_fit]
        by_cases hm : 0 ≤ m ∧ m < s.2.2.length
        · obtain ⟨k, rfl⟩ : ∃ k : Nat, m = k := ⟨m.toNat, by omega⟩
          obtain ⟨mv, hmv2⟩ : ∃ mv, s.2.2[k]? = some mv := ⟨_, List.getElem?_eq_getElem (by omega)⟩
          have gg : ((gv u s).map D.int)[k]? = some (.int (u.getD mv.2 0)) := by
            unfold gv
            rw [List.getElem?_map, List.getElem?_map, hmv2] <;> rfl
          rw [Int.toNat_natCast] at isH
          simp? only [Ru.ix, Rv.ix, gx, gp, gg, gv_len, x__law_fit]
          refine ⟨fun h => absurd h (by omega), fun _ => ⟨fun h => absurd h (by omega), fun _ => ⟨fun h => bad fun z => ?_, fun h => isH.mpr ⟨hm.1, hm.2, mv, hmv2, by omega⟩⟩⟩⟩
          obtain ⟨_, _, mv', h3, h4⟩ := isH.mp z.2
          rw [hmv2] at h3
          cases h3
          omega
        · refine ⟨fun h => bad fun z => hm ⟨(isH.mp z.2).1, (isH.mp z.2).2.1⟩, fun h => ⟨fun h2 => bad fun z => hm ⟨(isH.mp z.2).1, (isH.mp z.2).2.1⟩, fun h2 => absurd ⟨by omega, by omega⟩ hm⟩⟩
      · have isN : Pk u s c m ↔ m = -1 := by
          unfold Pk
          rw [if_pos]
          by_cases h : s.1 = "house"
          · exact .inr (by have : ¬ 0 < c := fun z => hw ⟨h, z⟩; omega)
          · exact .inl h
        have el : (m = -1 → Pk u s c m) ∧ (¬ m = -1 → Q (.d (.bl false)) [bk b, some (.d (.int st)), some ru, some rv]) := ⟨isN.mpr, fun h => bad fun z => h (isN.mp z.2)⟩
        by_cases h : s.1 = "house"
        · have hc : ¬ 0 < c := fun z => hw ⟨h, z⟩
          simp? only [Ru.ix, Rv.ix, gx, gp, gv_len, h, hc, decide_false, x__law_fit]
          exact ⟨el.2, el.1⟩
        · simp? only [Ru.ix, Rv.ix, gx, gp, gv_len, h, decide_false, x__law_fit]
          exact ⟨el.2, el.1⟩
    subst e
    rcases W.ow s hsb with hw | hw | hw
    · have hle : ∀ t, c ≤ t.fdiv s.2.1 ↔ s.2.1 * c ≤ t := fun t => le_fdiv a1
      simp? only [Ru.ix, gx, hw, po, oSum_own, hmul, x__law_fit]
      refine ⟨fun h => bad fun z => ?_, fun h => ⟨keep ⟨?_, hpk⟩, _, _, _, _, _, _, rfl⟩⟩
      · have := z.1
        unfold mo at this
        by_cases hn : s.2.2 = []
        · rw [if_pos hn] at this
          have e : (gv u s).sum = 0 := by unfold gv; rw [hn] <;> rfl
          have : c = 0 := by omega
          subst this
          rw [e, Int.mul_zero] at h
          omega
        · rw [if_neg hn, if_pos hw, hle] at this
          omega
      · unfold mo
        by_cases hn : s.2.2 = []
        · rw [if_pos hn]; exact hn0 hn
        · rw [if_neg hn, if_pos hw, hle]; omega
    · simp? only [Ru.ix, gx, gv_len, hw, (show ¬ (Str.ofString "outside") = Str.ofString "pen" from fun z => po z.symm), x__law_fit]
      refine ⟨fun h0 => ?_, fun h0 => ?_⟩
      · have hn : s.2.2 ≠ [] := nilc (by omega)
        have hmo : mo u s = minL (gv u s) := by unfold mo ev; rw [if_neg hn, if_neg (by rw [hw]; exact fun z => po z.symm), if_neg (by rw [hw]; exact oh)]
        simp? only [Ru.ix, gx, oMin_L (gv_ne (u := u) hn), hw, (show ¬ (Str.ofString "outside") = Str.ofString "pen" from fun z => po z.symm), x__law_fit]
        refine ⟨fun h => bad fun z => by have := z.1; omega, fun h => ⟨keep ⟨by omega, hpk⟩, _, _, _, _, _, _, rfl⟩⟩
      · have hn : s.2.2 = [] := List.length_eq_zero_iff.mp (by omega)
        refine ⟨keep ⟨?_, hpk⟩, _, _, _, _, _, _, rfl⟩
        unfold mo
        rw [if_pos hn]; exact hn0 hn
    · simp? only [Ru.ix, gx, hw, ho_, (show ¬ (Str.ofString "house") = Str.ofString "pen" from fun z => ph z.symm), x__law_fit]
      refine ⟨keep ⟨?_, hpk⟩, _, _, _, _, _, _, rfl⟩
      unfold mo
      by_cases hn : s.2.2 = []
      · rw [if_pos hn]; exact hn0 hn
      · rw [if_neg hn, if_neg (by rw [hw]; exact fun z => ph z.symm)]
        unfold ev
        rw [if_pos hw]
        obtain ⟨t1, t2⟩ := maxL_spec (gv_ne (u := u) hn)
        rcases Int.lt_or_le 0 c with hc | hc
        · unfold Pk at hpk
          rw [if_neg (by rw [hw]; intro z; rcases z with z | z; exact z rfl; omega)] at hpk
          obtain ⟨_, _, mv, h3, h4⟩ := hpk
          refine Int.le_trans h4 (t2 _ ?_)
          unfold gv
          exact List.mem_map_of_mem (f := fun m : Mv => u.getD m.2 0) (List.mem_of_getElem? h3)
        · have : 0 ≤ maxL (gv u s) := by
            unfold gv at t1
            obtain ⟨mm, _, e⟩ := List.mem_map.mp t1
            unfold gv
            rw [← e]; exact goal0 mm.2
          omega
  · subst eS
    simp? only [x__law_fit]
    refine q true ⟨fun _ => ⟨hnn, by omega, (Clo_iff hu).mpr fun i s h => (hpre i s (List.getElem?_eq_some_iff.mp h).1 h).1, fun i s h => (hpre i s (List.getElem?_eq_some_iff.mp h).1 h).2⟩, fun _ => rfl⟩
end L_k17

namespace L_k17
open PySem PySem.Spec L2 FR
abbrev tI (u : List Int) : Option O := some (.d (.tup (u.map .int)))
theorem counts_ok {r0 : O} {b : List Std} (W : Wf b) {st : Nat} (hs : st < b.length) {u v : List Int} (hu : u.length = b.length) (hv : v.length = b.length) (hx : ∀ y ∈ u, -(10 ^ 90) ≤ y ∧ y ≤ 10 ^ 90) {Q : O → Sl → Prop}
    (q : Q (.d (.bl true)) [some r0, bk b, some (.d (.int st)), tI u, tI v]) : wpM m__law_counts [r0, .d (.tup (b.map eS)), .d (.int st), .d (.tup (u.map .int)), .d (.tup (v.map .int))] Q := by
  have hbl := W.ln
  have hi : i62 (b.length : Int) = true := i62_nat (by omega)
  unfold m__law_counts b__law_counts
  simp? only [x__law_counts, hi, Int.toNat_natCast]
  refine wp_forR (J := fun _ S => ∃ (x5 x6 x7 : Option O), S = [some r0, bk b, some (.d (.int st)), tI u, tI v, x5, x6, x7]) ⟨_, _, _, rfl⟩ (fun i hin S ⟨x5, x6, x7, eS⟩ => ?_) (fun S ⟨x5, x6, x7, eS⟩ => ?_)
  · subst eS
    have gu := get_i (u := u) (i := i) (by omega)
    have hui : -(10 ^ 90) ≤ u.getD i 0 ∧ u.getD i 0 ≤ 10 ^ 90 := by
      have h := List.getElem?_eq_getElem (l := u) (i := i) (by omega)
      rw [getD_of h]
      exact hx _ (List.mem_of_getElem? h)
    generalize u.getD i 0 = c at gu hui
    have hxi : ixN u.length (i : Int) = some i := ixN_n (by omega)
    simp? only []
    refine wp_forE (enc := D.int) (as := [1, -1]) (J := fun _ S => ∃ (x6 x7 : Option O), S = [some r0, bk b, some (.d (.int st)), tI u, tI v, some (.d (.int i)), x6, x7]) ⟨_, _, rfl⟩ (fun pre x post ep S ⟨x6, x7, e⟩ => ?_) (fun S ⟨x6, x7, e⟩ => ?_)
    · subst e
      have hxx : x = 1 ∨ x = -1 := by
        have : x ∈ [1, (-1 : Int)] := by rw [ep]; simp
        simpa using this
      have bd : (u.set i (c + x)).length = b.length ∧ ∀ y ∈ u.set i (c + x), -(10 ^ 100) ≤ y ∧ y ≤ 10 ^ 100 := by
        refine ⟨by rw [List.length_set]; exact hu, fun y hy => ?_⟩
        rcases List.mem_or_eq_of_mem_set hy with h | h
        · have := hx y h; omega
        · subst h; omega
      simp? only [gu, hxi, set_map D.int]
      refine is_fit_ok W hs bd.1 hv fun r1 hr1 => ?_
      simp? only []
      refine law_fit_ok W hs bd.1 hv bd.2 (Rd_o _) (Rd_t _) fun r2 hr2 => ?_
      simp? only []
      refine said_ok (by rw [Bool.eq_iff_iff, hr1, hr2]) ?_
      simp? only [Bool.not_true]
      exact ⟨_, _, rfl⟩
    · subst e
      exact ⟨_, _, _, rfl⟩
  · subst eS
    simp? only [x__law_counts]
    exact q
theorem plans_ok {r0 : O} {b : List Std} (W : Wf b) {st : Nat} (hs : st < b.length) {u v : List Int} (hu : u.length = b.length) (hv : v.length = b.length) (hx : ∀ y ∈ u, -(10 ^ 90) ≤ y ∧ y ≤ 10 ^ 90) {Q : O → Sl → Prop}
    (q : Q (.d (.bl true)) [some r0, bk b, some (.d (.int st)), tI u, tI v]) : wpM m__law_plans [r0, .d (.tup (b.map eS)), .d (.int st), .d (.tup (u.map .int)), .d (.tup (v.map .int))] Q := by
  have hbl := W.ln
  have hi : i62 (b.length : Int) = true := i62_nat (by omega)
  unfold m__law_plans b__law_plans
  simp? only [x__law_plans, hi, Int.toNat_natCast]
  refine wp_forR (J := fun _ S => ∃ (x5 x6 x7 : Option O), S = [some r0, bk b, some (.d (.int st)), tI u, tI v, x5, x6, x7]) ⟨_, _, _, rfl⟩ (fun i hin S ⟨x5, x6, x7, eS⟩ => ?_) (fun S ⟨x5, x6, x7, eS⟩ => ?_)
  · subst eS
    obtain ⟨s, hsi⟩ : ∃ s, b[i]? = some s := ⟨_, List.getElem?_eq_getElem hin⟩
    have g1 := get_eS hsi
    have hxi : ixN v.length (i : Int) = some i := ixN_n (by omega)
    simp? only [g1]
    refine wp_forE (enc := D.int) (as := [-2, -1, 0, 1, 2, (s.2.2.length : Int)]) (J := fun _ S => ∃ (x6 x7 : Option O), S = [some r0, bk b, some (.d (.int st)), tI u, tI v, some (.d (.int i)), x6, x7]) ⟨_, _, rfl⟩ (fun pre x post ep S ⟨x6, x7, e⟩ => ?_) (fun S ⟨x6, x7, e⟩ => ?_)
    · subst e
      have bd : (v.set i x).length = b.length := by rw [List.length_set]; exact hv
      simp? only [hxi, set_map D.int]
      refine is_fit_ok W hs hu bd fun r1 hr1 => ?_
      simp? only []
      refine law_fit_ok W hs hu bd (fun y hy => by have := hx y hy; omega) (Rd_t _) (Rd_o _) fun r2 hr2 => ?_
      simp? only []
      refine said_ok (by rw [Bool.eq_iff_iff, hr1, hr2]) ?_
      simp? only [Bool.not_true]
      exact ⟨_, _, rfl⟩
    · subst e
      exact ⟨_, _, _, rfl⟩
  · subst eS
    simp? only [x__law_plans]
    exact q
/-- what is no fit, by its looks -/
structure Wb (n st : Nat) (d : D) : Prop where
  ok : ok2 d
  no : pairB n st d = false
theorem Wb.flat {n st : Nat} {d : D} (h : okD d = true) (h2 : ∀ xs, d ≠ .tup xs) : Wb n st d := ⟨⟨h, fun x y e => absurd e (h2 _)⟩, by cases d <;> first | rfl | exact absurd rfl (h2 _)⟩
theorem Wb.len {n st : Nat} {xs : List D} (h : xs.length ≠ 2) : Wb n st (.tup xs) := ⟨⟨rfl, fun x y e => by cases e; exact absurd rfl h⟩, by
  rcases xs with _ | ⟨x, _ | ⟨y, _ | ⟨z, xs⟩⟩⟩
  · rfl
  · rfl
  · exact absurd rfl h
  · rfl⟩
theorem Wb.two {n st : Nat} {x y : D} (hx : ok1 x) (hy : ok1 y) (h : areN n x = false ∨ tupN n y = false ∨ allIt y = false) : Wb n st (.tup [x, y]) := ⟨⟨rfl, fun x' y' e => by cases e; exact ⟨hx, hy⟩⟩, by
  show (areN n x && tupN n y && (decide (1 ≤ atD st x) && allIt y)) = false
  rcases h with h | h | h
  · rw [h, Bool.false_and, Bool.false_and]
  · rw [h, Bool.and_false, Bool.false_and]
  · rw [h, Bool.and_false, Bool.and_false]⟩
theorem ok1_lst (xs : List D) : ok1 (.lst xs) := ⟨rfl, fun ys e => by cases e⟩
theorem ok1_str (z : Str) : ok1 (.str z) := ⟨rfl, fun ys e => by cases e⟩
theorem ok1_set {x : List Int} (hl : x.length ≤ 1000) (k : Nat) {d : D} (hd : okD d = true) : ok1 (.tup ((x.map .int).set k d)) := ⟨rfl, fun xs e => by
  cases e
  refine ⟨by rw [List.length_set, List.length_map]; omega, fun y hy => ?_⟩
  rcases List.mem_or_eq_of_mem_set hy with h | rfl
  · obtain ⟨z, _, rfl⟩ := List.mem_map.mp h; rfl
  · exact hd⟩
theorem areN_set {x : List Int} {n k : Nat} (hk : k < x.length) {d : D} (hd : isNum d = false) : areN n (.tup ((x.map .int).set k d)) = false := by
  show (decide (_ = n) && ((x.map D.int).set k d).all isNum) = false
  have : ((x.map D.int).set k d).all isNum = false := List.all_eq_false.mpr ⟨d, List.mem_of_getElem? (i := k) (List.getElem?_set_self (by rw [List.length_map]; exact hk)), by rw [hd]; decide⟩
  rw [this, Bool.and_false]
theorem allIt_set {x : List Int} {k : Nat} (hk : k < x.length) {d : D} (hd : isIt d = false) : allIt (.tup ((x.map .int).set k d)) = false := by
  show ((x.map D.int).set k d).all isIt = false
  exact List.all_eq_false.mpr ⟨d, List.mem_of_getElem? (i := k) (List.getElem?_set_self (by rw [List.length_map]; exact hk)), by rw [hd]; decide⟩
theorem areN_len {xs : List D} {n : Nat} (h : xs.length ≠ n) : areN n (.tup xs) = false := by
  show (decide (xs.length = n) && xs.all isNum) = false
  rw [decide_eq_false h, Bool.false_and]
theorem areN_neg {x : List Int} {n k : Nat} (hk : k < x.length) (h : x.getD k 0 < 0) : areN n (.tup (x.map .int)) = false := by
  cases e : areN n (.tup (x.map .int)) with
  | false => rfl
  | true =>
    have h1 := List.getElem?_eq_getElem hk
    rw [getD_of h1] at h
    have := (areN_ints.mp e).2 _ (List.mem_of_getElem? h1)
    omega
theorem wb_fit {b : List Std} {st : Nat} (hb : b.length ≤ 10000) (hs : st < b.length) {d : D} (h : Wb b.length st d) {Q : O → Sl → Prop} (q : Q (.d (.bl false)) [bk b, some (.d (.int st)), some (.d d)]) : wpM m_is_fit [.d (.tup (b.map eS)), .d (.int st), .d d] Q := is_fit_bad hb hs h.ok h.no q
theorem kinds_ok {p0 p1 : Int} (P : Pl p0 p1) {b : List Std} (W : Wf b) (hb2 : 3 ≤ b.length) {u v : List Int} (hu : u.length = b.length) (hv : v.length = b.length) (hx : ∀ y ∈ u, -(10 ^ 90) ≤ y ∧ y ≤ 10 ^ 90) {ev en : Nat} (hev : ev < b.length) (hen : en < b.length) (hm : v.getD ev 0 < 0) {Q : O → Sl → Prop}
    (q : ∀ p0 p1, Pl p0 p1 → Q (.d (.bl true)) [pl p0 p1, bk b, tI u, tI v, some (.d (.int ev)), some (.d (.int en))]) : wpM m__law_kinds [.own (.lst [.int p0, .int p1]), .d (.tup (b.map eS)), .d (.tup (u.map .int)), .d (.tup (v.map .int)), .d (.int ev), .d (.int en)] Q := by
  have hbl := W.ln
  unfold m__law_kinds b__law_kinds
  rw [wpM_fm]
  simp only [slots, List.replicate]
  have xu : ∀ k : Nat, k < b.length → ixN u.length (k : Int) = some k := fun k hk => ixN_n (by omega)
  have xv : ∀ k : Nat, k < b.length → ixN v.length (k : Int) = some k := fun k hk => ixN_n (by omega)
  refine wp_cut (fun S => S = [pl p0 p1, bk b, tI u, tI v, some (.d (.int ev)), some (.d (.int en)), some (.own (.lst (u.map .int))), none, none, none, none]) ?_ fun S e => ?_
  · simp? only []
  subst e
  refine wp_cut (fun S => S = [pl p0 p1, bk b, tI u, tI v, some (.d (.int ev)), some (.d (.int en)), some (.own (.lst ((u.map .int).set ev (.bl true)))), none, none, none, none]) ?_ fun S e => ?_
  · simp? only [xu ev hev]
  subst e
  refine wp_cut (fun S => S = [pl p0 p1, bk b, tI u, tI v, some (.d (.int ev)), some (.d (.int en)), some (.own (.lst ((u.map .int).set ev (.bl true)))), some (.own (.lst (u.map .int))), none, none, none]) ?_ fun S e => ?_
  · simp? only []
  subst e
  refine wp_cut (fun S => S = [pl p0 p1, bk b, tI u, tI v, some (.d (.int ev)), some (.d (.int en)), some (.own (.lst ((u.map .int).set ev (.bl true)))), some (.own (.lst ((u.map .int).set en (.bl false)))), none, none, none]) ?_ fun S e => ?_
  · simp? only [xu en hen]
  subst e
  refine wp_cut (fun S => S = [pl p0 p1, bk b, tI u, tI v, some (.d (.int ev)), some (.d (.int en)), some (.own (.lst ((u.map .int).set ev (.bl true)))), some (.own (.lst ((u.map .int).set en (.bl false)))), some (.own (.lst (v.map .int))), none, none]) ?_ fun S e => ?_
  · simp? only []
  subst e
  refine wp_cut (fun S => S = [pl p0 p1, bk b, tI u, tI v, some (.d (.int ev)), some (.d (.int en)), some (.own (.lst ((u.map .int).set ev (.bl true)))), some (.own (.lst ((u.map .int).set en (.bl false)))), some (.own (.lst ((v.map .int).set en .non))), none, none]) ?_ fun S e => ?_
  · simp? only [xv en hen]
  subst e
  let U : D := .tup (u.map .int)
  let V : D := .tup (v.map .int)
  generalize hW1 : [D.tup [.lst (u.map .int), V], D.tup [U, .lst (v.map .int)], D.lst [U, V], D.tup [U, V, V], D.tup [U], D.non, U] = W1
  have w1l : W1.length = 7 := by rw [← hW1] <;> rfl
  refine wp_cut (fun S => S = [pl p0 p1, bk b, tI u, tI v, some (.d (.int ev)), some (.d (.int en)), some (.own (.lst ((u.map .int).set ev (.bl true)))), some (.own (.lst ((u.map .int).set en (.bl false)))), some (.own (.lst ((v.map .int).set en .non))), some (.own (.lst W1)), none]) ?_ fun S e => ?_
  · simp? only []
    rw [← hW1]
  subst e
  have cu : cutD (u.map D.int) (some 1) none = (u.map .int).drop 1 := cut_hi (k := 1) _ (by rw [List.length_map]; omega)
  have cv : cutD (v.map D.int) (some 1) none = (v.map .int).drop 1 := cut_hi (k := 1) _ (by rw [List.length_map]; omega)
  have a1 : u.length + 1 ≤ lim := by rw [lim_eq]; omega
  have a2 : v.length + 1 ≤ lim := by rw [lim_eq]; omega
  have a3 : 7 + 4 ≤ lim := by rw [lim_eq]; omega
  have a4 : 11 + 4 ≤ lim := by rw [lim_eq]; omega
  generalize hW2 : W1 ++ [D.tup [.tup ((u.map .int).drop 1), .tup ((v.map .int).drop 1)], D.tup [.tup (u.map .int ++ [.int 0]), .tup (v.map .int ++ [.int (-1)])], D.tup [.tup ((u.map .int).set en (.bl false)), V], D.tup [U, .tup ((v.map .int).set en .non)]] = W2
  have w2l : W2.length = 11 := by rw [← hW2, List.length_append, w1l] <;> rfl
  refine wp_cut (fun S => S = [pl p0 p1, bk b, tI u, tI v, some (.d (.int ev)), some (.d (.int en)), some (.own (.lst ((u.map .int).set ev (.bl true)))), some (.own (.lst ((u.map .int).set en (.bl false)))), some (.own (.lst ((v.map .int).set en .non))), some (.own (.lst W2)), none]) ?_ fun S e => ?_
  · simp? only [cu, cv, a1, a2, a3, w1l]
    rw [← hW2]
  subst e
  generalize hW3 : W2 ++ [D.tup [.tup [], .tup []], D.tup [V, U], D.str "fit", D.tup [.str "fit", .tup [U, V]]] = W3
  have w3l : W3.length = 15 := by rw [← hW3, List.length_append, w2l] <;> rfl
  refine wp_cut (fun S => S = [pl p0 p1, bk b, tI u, tI v, some (.d (.int ev)), some (.d (.int en)), some (.own (.lst ((u.map .int).set ev (.bl true)))), some (.own (.lst ((u.map .int).set en (.bl false)))), some (.own (.lst ((v.map .int).set en .non))), some (.own (.lst W3)), none]) ?_ fun S e => ?_
  · simp? only [a4, w2l]
    rw [← hW3]
  subst e
  have oU : ok1 U := ok1_ints u (by omega)
  have oV : ok1 V := ok1_ints v (by omega)
  have okdrop : ∀ (x : List Int), x.length ≤ 1000 → ok1 (.tup ((x.map D.int).drop 1)) := fun x hx => ⟨rfl, fun xs e => by
    cases e
    refine ⟨by rw [List.length_drop, List.length_map]; omega, fun y hy => ?_⟩
    obtain ⟨z, _, rfl⟩ := List.mem_map.mp (List.mem_of_mem_drop hy)
    rfl⟩
  have oksn : ∀ (x : List Int) (i : Int), x.length ≤ 1000 → ok1 (.tup (x.map D.int ++ [.int i])) := fun x i hx => ⟨rfl, fun xs e => by
    cases e
    refine ⟨by simp; omega, fun y hy => ?_⟩
    rcases List.mem_append.mp hy with h | h
    · obtain ⟨z, _, rfl⟩ := List.mem_map.mp h; rfl
    · have : y = .int i := by simpa using h
      subst this; rfl⟩
  have w3w : ∀ d ∈ W3, Wb b.length ev d := by
    rw [← hW3, ← hW2, ← hW1]
    intro d hd
    simp only [List.cons_append, List.nil_append, List.mem_cons, List.not_mem_nil, or_false] at hd
    rcases hd with rfl | rfl | rfl | rfl | rfl | rfl | rfl | rfl | rfl | rfl | rfl | rfl | rfl | rfl | rfl
    · exact Wb.two (ok1_lst _) oV (.inl rfl)
    · exact Wb.two oU (ok1_lst _) (.inr (.inl rfl))
    · exact Wb.flat rfl fun xs e => by cases e
    · exact Wb.len (by simp)
    · exact Wb.len (by simp)
    · exact Wb.flat rfl fun xs e => by cases e
    · exact Wb.len (by rw [List.length_map]; omega)
    · exact Wb.two (okdrop u (by omega)) (okdrop v (by omega)) (.inl (areN_len (by rw [List.length_drop, List.length_map]; omega)))
    · exact Wb.two (oksn u 0 (by omega)) (oksn v (-1) (by omega)) (.inl (areN_len (by simp; omega)))
    · exact Wb.two (ok1_set (by omega) en rfl) oV (.inl (areN_set (by omega) rfl))
    · exact Wb.two oU (ok1_set (by omega) en rfl) (.inr (.inr (allIt_set (by omega) rfl)))
    · exact Wb.two ⟨rfl, fun xs e => by cases e; exact ⟨by simp, fun x hx => by cases hx⟩⟩ ⟨rfl, fun xs e => by cases e; exact ⟨by simp, fun x hx => by cases hx⟩⟩ (.inl (areN_len (by simp; omega)))
    · exact Wb.two oV oU (.inl (areN_neg (by omega) hm))
    · exact Wb.flat rfl fun xs e => by cases e
    · exact Wb.two (ok1_str _) ⟨rfl, fun xs e => by cases e; exact ⟨by simp, fun x hx => by
        simp only [List.mem_cons, List.not_mem_nil, or_false] at hx
        rcases hx with rfl | rfl <;> rfl⟩⟩ (.inl rfl)
  have i3 : i62 3 = true := by decide
  have n3 : (3 : Int).toNat = 3 := by decide
  refine wp_cut (fun S => ∃ (p0 p1 : Int) (x10 : Option O), Pl p0 p1 ∧ S = [pl p0 p1, bk b, tI u, tI v, some (.d (.int ev)), some (.d (.int en)), some (.own (.lst ((u.map .int).set ev (.bl true)))), some (.own (.lst ((u.map .int).set en (.bl false)))), some (.own (.lst ((v.map .int).set en .non))), some (.own (.lst W3)), x10]) ?_ fun S ⟨p0, p1, x10, P, e⟩ => ?_
  · simp? only [i3, n3]
    refine wp_forR (J := fun _ S => ∃ (p0 p1 : Int) (x10 : Option O), Pl p0 p1 ∧ S = [pl p0 p1, bk b, tI u, tI v, some (.d (.int ev)), some (.d (.int en)), some (.own (.lst ((u.map .int).set ev (.bl true)))), some (.own (.lst ((u.map .int).set en (.bl false)))), some (.own (.lst ((v.map .int).set en .non))), some (.own (.lst W3)), x10]) ⟨_, _, _, P, rfl⟩ (fun i hin S ⟨p0, p1, x10, P, e⟩ => ?_) (fun S ⟨p0, p1, x10, P, e⟩ => ⟨rfl, p0, p1, x10, P, e⟩)
    subst e
    simp? only [w3l]
    refine take_ok P (by omega) (by omega) fun p0 p1 r P r0 r1 => ?_
    obtain ⟨d, hd, hd2⟩ := atI_of (xs := W3) r0 (by rw [w3l]; exact r1)
    simp? only [hd]
    refine wb_fit (by omega) hev (w3w d (List.mem_of_getElem? hd2)) ?_
    simp? only [kBl, decide_true, Bool.not_true]
    exact ⟨_, _, _, P, rfl⟩
  subst e
  refine wp_cut (fun S => S = [pl p0 p1, bk b, tI u, tI v, some (.d (.int ev)), some (.d (.int en)), some (.own (.lst ((u.map .int).set ev (.bl true)))), some (.own (.lst ((u.map .int).set en (.bl false)))), some (.own (.lst ((v.map .int).set en .non))), some (.own (.lst W3)), x10]) ?_ fun S e => ?_
  · simp? only []
    refine wb_fit (by omega) hev (Wb.two (ok1_set (by omega) ev rfl) oV (.inl (areN_set (by omega) rfl))) ?_
    simp? only [kBl, decide_true, Bool.not_true]
  subst e
  have hset : ((u.map D.int).set ev (.bl true)).set ev (.int 1) = (u.set ev 1).map .int := by rw [List.set_set, set_map D.int]
  refine wp_cut (fun S => S = [pl p0 p1, bk b, tI u, tI v, some (.d (.int ev)), some (.d (.int en)), some (.own (.lst ((u.set ev 1).map .int))), some (.own (.lst ((u.map .int).set en (.bl false)))), some (.own (.lst ((v.map .int).set en .non))), some (.own (.lst W3)), x10]) ?_ fun S e => ?_
  · simp? only [List.length_set, xu ev hev, hset]
  subst e
  have bd : (u.set ev 1).length = b.length ∧ ∀ y ∈ u.set ev 1, -(10 ^ 100) ≤ y ∧ y ≤ 10 ^ 100 := by
    refine ⟨by rw [List.length_set]; exact hu, fun y hy => ?_⟩
    rcases List.mem_or_eq_of_mem_set hy with h | rfl
    · have := hx y h; omega
    · omega
  simp? only []
  refine is_fit_ok W hev bd.1 hv fun r1 hr1 => ?_
  simp? only []
  refine law_fit_ok W hev bd.1 hv bd.2 (Rd_o _) (Rd_t _) fun r2 hr2 => ?_
  simp? only []
  refine said_ok (by rw [Bool.eq_iff_iff, hr1, hr2]) ?_
  simp? only [x__law_kinds]
  exact q _ _ P
end L_k17

namespace L_k17
open PySem PySem.Spec L2 FR
theorem divOk_100 {j : Int} (h0 : j ≠ 0) (h : -(10 ^ 100) ≤ j ∧ j ≤ 10 ^ 100) : divOk j = true := by
  unfold divOk
  have e : (10 : Nat) ^ 100 < 2 ^ 9000 := Nat.lt_of_lt_of_le (show (10 : Nat) ^ 100 < 2 ^ 400 by decide) (Nat.pow_le_pow_right (by decide) (by decide))
  have e2 : ((10 : Nat) ^ 100 : Nat) = ((10 : Int) ^ 100).natAbs := by decide
  rw [Bool.and_eq_true, decide_eq_true_eq, decide_eq_true_eq]
  exact ⟨h0, (Nat.log2_lt (by omega)).mpr (by omega)⟩
theorem count_ok {p0 p1 h : Int} (P : Pl p0 p1) {Q : O → Sl → Prop} (q : ∀ p0 p1 c : Int, Pl p0 p1 → 0 ≤ c → c ≤ 10 ^ 49 → Q (.d (.int c)) [pl p0 p1, some (.d (.int h))]) : wpM m__law_count [.own (.lst [.int p0, .int p1]), .d (.int h)] Q := by
  unfold m__law_count b__law_count
  have pw : powOk 10 48 = true := by decide +kernel
  have pw9 : powOk 10 9 = true := by decide +kernel
  have e9 : (10 : Int) ^ (9 : Int).toNat = 1000000000 := by decide
  have e48 : (10 : Int) ^ (48 : Int).toNat = 10 ^ 48 := rfl
  simp? only [x__law_count]
  refine ⟨fun _ => q _ _ 1 P (by omega) (by omega), fun _ => ⟨fun _ => ?_, fun _ => ⟨fun _ => ?_, fun _ => ?_⟩⟩⟩
  · refine take_ok P (by omega) (by omega) fun p0 p1 r P r0 r1 => ?_
    simp? only [x__law_count]
    exact q _ _ _ P r0 (by omega)
  · refine take_ok P (by omega) (by omega) fun p0 p1 r P r0 r1 => ?_
    have hm : mulOk (1 + r) (10 ^ 48) = true := mulOk_60 (by omega) (by omega)
    simp? only [pw, pw9, e9, e48, hm]
    refine take_ok P (by omega) (by omega) fun p0 p1 r' P r0' r1' => ?_
    simp? only [x__law_count]
    exact q _ _ _ P (by omega) (by omega)
  · refine take_ok P (by omega) (by omega) fun p0 p1 r P r0 r1 => ?_
    simp? only [x__law_count]
    exact q _ _ _ P r0 (by omega)
/-- a made standing, goals by places of the drawing -/
def mkS (w : Str) (a : Int) (gs : List Nat) : Std := (w, a, gs.map fun g => (Str.ofString "", g))
theorem gv_mk (cs : List Int) (w : Str) (a : Int) (gs : List Nat) : gv cs (mkS w a gs) = gs.map fun g => cs.getD g 0 := by
  unfold gv mkS
  rw [List.map_map] <;> rfl
theorem mk_nil {w : Str} {a : Int} {gs : List Nat} : (mkS w a gs).2.2 = [] ↔ gs = [] := by
  unfold mkS
  simp
/-- a good one: owner w, ask and goals, count c, plan m -/
structure Gd (n : Nat) (cs : List Int) (w : Str) (a : Int) (gs : List Nat) (c m : Int) : Prop where
  ak : 1 ≤ a ∧ a ≤ 10 ^ 12
  ln : gs.length ≤ 100
  lt : ∀ g ∈ gs, g < n
  nn : 0 ≤ c
  mo : c ≤ mo cs (mkS w a gs)
  pk : Pk cs (mkS w a gs) c m
theorem goalsI (cs : List Int) (gs : List Nat) : gs.map (fun g => D.int (cs.getD g 0)) = (gs.map fun g => cs.getD g 0).map .int := by rw [List.map_map] <;> rfl
theorem pick_ok {p0 p1 : Int} (P : Pl p0 p1) {n k : Nat} {ows : List Str} {cs : List Int} {w : Str} (hn : n ≤ 100) (hl : ows.length = n) (hcl : cs.length = n) (hk : k + 1 < n) (hw : ows[k]? = some w) (hwo : w = "outside" ∨ w = "house") (h0 : ∀ j, 0 ≤ cs.getD j 0 ∧ cs.getD j 0 ≤ 10 ^ 50) {Q : O → Sl → Prop}
    (q : ∀ (p0 p1 : Int) (gs : List Nat) (c m : Int), Pl p0 p1 → c ≤ 10 ^ 50 → Gd n cs w 1 gs c m → (∀ g ∈ gs, k < g ∨ ows[g]? = some (Str.ofString "pen")) → Q (.own (.lst [.lst (gs.map eI), .int c, .int m])) [pl p0 p1, some (.d (.lst (ows.map .str))), some (.own (.lst (cs.map .int))), some (.d (.int k))]) : wpM m__law_pick [.own (.lst [.int p0, .int p1]), .d (.lst (ows.map .str)), .own (.lst (cs.map .int)), .d (.int k)] Q := by
  unfold m__law_pick b__law_pick
  rw [wpM_fm]
  simp only [slots, List.replicate]
  have hi : i62 (n : Int) = true := i62_nat (by omega)
  have gw := get_str hw
  have hwp : w ≠ "pen" := fun z => by
    subst z
    rcases hwo with h | h
    · exact po h
    · exact ph h
  refine wp_cut (fun S => ∃ (al : List Nat) (x5 : Option O), al ≠ [] ∧ al.length ≤ n ∧ (∀ g ∈ al, g < n ∧ (k < g ∨ ows[g]? = some (Str.ofString "pen"))) ∧ S = [pl p0 p1, some (.d (.lst (ows.map .str))), some (.own (.lst (cs.map .int))), some (.d (.int k)), some (.own (.lst (al.map eI))), x5, none, none, none, none, none]) ?_ fun S ⟨al, x5, al0, al1, al2, e⟩ => ?_
  · simp? only [hl, hi, Int.toNat_natCast, rangeD_nat]
    refine wp_comp (enc := eI) (as := List.range n) (J := fun pre acc S => ∃ (al : List Nat), al.length ≤ pre.length ∧ (∀ g ∈ al, g < n ∧ (k < g ∨ ows[g]? = some (Str.ofString "pen"))) ∧ (∀ g ∈ pre, k < g → g ∈ al) ∧ acc = al.map eI ∧ S = [pl p0 p1, some (.d (.lst (ows.map .str))), some (.own (.lst (cs.map .int))), some (.d (.int k)), none, none, none, none, none, none, none]) (by rw [List.length_range, lim_eq]; omega) ⟨[], Nat.le_refl _, fun g h => by simp at h, fun g h => by simp at h, rfl, rfl⟩ (fun pre g post e acc S ⟨al, h1, h2, h3, ea, eS⟩ => ?_) (fun acc S ⟨al, h1, h2, h3, ea, eS⟩ => ?_)
    · subst ea eS
      have hg : g < n := List.mem_range.mp (by rw [e]; simp)
      obtain ⟨w', hw'⟩ : ∃ w, ows[g]? = some w := ⟨_, List.getElem?_eq_getElem (by omega)⟩
      have gw' := get_str hw'
      have add : (w' = "pen" ∨ k < g) → ∃ (al' : List Nat), al'.length ≤ (pre ++ [g]).length ∧ (∀ g ∈ al', g < n ∧ (k < g ∨ ows[g]? = some (Str.ofString "pen"))) ∧ (∀ x ∈ pre ++ [g], k < x → x ∈ al') ∧ al.map eI ++ [D.int (g : Int)] = al'.map eI := fun h => ⟨al ++ [g], by simp; omega, fun x hx => by
        rcases List.mem_append.mp hx with z | z
        · exact h2 x z
        · have : x = g := by simpa using z
          subst this
          exact ⟨hg, h.elim (fun z => .inr (by rw [hw', z])) .inl⟩, fun x hx hkx => by
        rcases List.mem_append.mp hx with z | z
        · exact List.mem_append_left _ (h3 x z hkx)
        · exact List.mem_append_right _ z, snocI al g⟩
      simp? only [eI_eq, gw']
      refine ⟨fun h => add (.inr (by omega)), fun h => ⟨fun h' => add (.inl h'), fun h' => ⟨al, by simp; omega, h2, fun x hx hkx => ?_, rfl⟩⟩⟩
      rcases List.mem_append.mp hx with z | z
      · exact h3 x z hkx
      · have : x = g := by simpa using z
        omega
    · subst ea eS
      simp? only []
      exact ⟨al, none, List.ne_nil_of_mem (h3 (k + 1) (List.mem_range.mpr hk) (by omega)), by rw [List.length_range] at h1; exact h1, h2, rfl⟩
  subst e
  have alp : 0 < al.length := List.length_pos_iff.mpr al0
  refine wp_cut (fun S => ∃ (p0 p1 : Int) (gs : List Nat) (x7 : Option O), Pl p0 p1 ∧ gs.length ≤ 4 ∧ (∀ g ∈ gs, g < n ∧ (k < g ∨ ows[g]? = some (Str.ofString "pen"))) ∧ S = [pl p0 p1, some (.d (.lst (ows.map .str))), some (.own (.lst (cs.map .int))), some (.d (.int k)), some (.own (.lst (al.map eI))), x5, some (.own (.lst (gs.map eI))), x7, none, none, none]) ?_ fun S ⟨p0, p1, gs, x7, P, gl, ga, e⟩ => ?_
  · simp? only []
    refine take_ok P (by omega) (by omega) fun p0 p1 r P r0 r1 => ?_
    obtain ⟨c, rfl⟩ : ∃ c : Nat, r = c := ⟨r.toNat, by omega⟩
    have hic : i62 (c : Int) = true := i62_nat (by omega)
    simp? only [hic, Int.toNat_natCast, rangeD_nat]
    refine wp_comp (enc := eI) (as := List.range c) (J := fun pre acc S => ∃ (p0 p1 : Int) (gs : List Nat), Pl p0 p1 ∧ gs.length = pre.length ∧ (∀ g ∈ gs, g < n ∧ (k < g ∨ ows[g]? = some (Str.ofString "pen"))) ∧ acc = gs.map eI ∧ S = [pl p0 p1, some (.d (.lst (ows.map .str))), some (.own (.lst (cs.map .int))), some (.d (.int k)), some (.own (.lst (al.map eI))), x5, none, none, none, none, none]) (by rw [List.length_range, lim_eq]; omega) ⟨p0, p1, [], P, rfl, fun g h => by simp at h, rfl, rfl⟩ (fun pre i post e acc S ⟨p0, p1, gs, P, h1, h2, ea, eS⟩ => ?_) (fun acc S ⟨p0, p1, gs, P, h1, h2, ea, eS⟩ => ?_)
    · subst ea eS
      simp? only []
      refine take_ok P (by omega) (by omega) fun p0 p1 r P r0 r1 => ?_
      obtain ⟨y, rfl⟩ : ∃ c : Nat, r = c := ⟨r.toNat, by omega⟩
      obtain ⟨g, hg⟩ : ∃ g, al[y]? = some g := ⟨_, List.getElem?_eq_getElem (by omega)⟩
      have g1 := get_eI hg
      simp? only [g1]
      refine ⟨p0, p1, gs ++ [g], P, by simp [h1], fun x hx => ?_, by rw [snocI], rfl⟩
      rcases List.mem_append.mp hx with z | z
      · exact h2 x z
      · have : x = g := by simpa using z
        subst this; exact al2 _ (List.mem_of_getElem? hg)
    · subst ea eS
      rw [List.length_range] at h1
      simp? only []
      exact ⟨p0, p1, gs, none, P, by omega, h2, rfl⟩
  subst e
  refine wp_cut (fun S => ∃ (x5 : Option O), S = [pl p0 p1, some (.d (.lst (ows.map .str))), some (.own (.lst (cs.map .int))), some (.d (.int k)), some (.own (.lst (al.map eI))), x5, some (.d (.lst (gs.map eI))), x7, some (.own (.lst ((gs.map fun g => cs.getD g 0).map .int))), none, none]) ?_ fun S ⟨y5, e⟩ => ?_
  · simp? only []
    refine wp_compP (enc := eI) (as := gs) (out := fun g => D.int (cs.getD g 0)) (by rw [lim_eq]; omega) (fun g hg => ?_) ?_
    · have g2 := get_i (u := cs) (i := g) (by rw [hcl]; exact (ga g hg).1)
      simp? only [eI_eq, g2]
    · rw [goalsI]
      simp? only []
      exact ⟨_, rfl⟩
  subst e
  have far : ∀ g ∈ gs, k < g ∨ ows[g]? = some (Str.ofString "pen") := fun g hg => (ga g hg).2
  have ltn : ∀ g ∈ gs, g < n := fun g hg => (ga g hg).1
  have pkN : ∀ (c m : Int), (w ≠ "house" ∨ c < 1) → m = -1 → Pk cs (mkS w 1 gs) c m := fun c m h hm => by
    unfold Pk
    rw [if_pos (show (mkS w 1 gs).1 ≠ "house" ∨ c < 1 from h)]; exact hm
  have gvn := gv_mk cs w 1 gs
  refine wp_cutR (fun S => gs ≠ [] ∧ S = [pl p0 p1, some (.d (.lst (ows.map .str))), some (.own (.lst (cs.map .int))), some (.d (.int k)), some (.own (.lst (al.map eI))), y5, some (.d (.lst (gs.map eI))), x7, some (.own (.lst ((gs.map fun g => cs.getD g 0).map .int))), none, none]) ?_ fun S ⟨hgs, e⟩ => ?_
  · simp? only [x__law_pick]
    refine ⟨fun h => ?_, fun h z => h (by rw [z] <;> rfl)⟩
    have hgs : gs = [] := List.length_eq_zero_iff.mp (by omega)
    refine q _ _ gs 0 (-1) P (by omega) ⟨by omega, by omega, ltn, by omega, ?_, pkN _ _ (.inr (by omega)) rfl⟩ far
    unfold mo
    rw [if_pos (mk_nil.mpr hgs)]; exact Int.le_refl _
  subst e
  have hmk : (mkS w 1 gs).2.2 ≠ [] := fun z => hgs (mk_nil.mp z)
  have hns : (gs.map fun g => cs.getD g 0) ≠ [] := by simpa using hgs
  have allnn : ∀ y ∈ (gs.map fun g => cs.getD g 0), 0 ≤ y ∧ y ≤ 10 ^ 50 := fun y hy => by
    obtain ⟨g, _, rfl⟩ := List.mem_map.mp hy; exact h0 g
  have dv : divOk 2 = true := divOk_small (by omega) (by omega)
  have f2 : ∀ r : Int, 0 ≤ r → 0 ≤ r.fdiv 2 := fun r h => fdiv_nn h (by omega)
  refine wp_cutR (fun S => w = "house" ∧ S = [pl p0 p1, some (.d (.lst (ows.map .str))), some (.own (.lst (cs.map .int))), some (.d (.int k)), some (.own (.lst (al.map eI))), y5, some (.d (.lst (gs.map eI))), x7, some (.own (.lst ((gs.map fun g => cs.getD g 0).map .int))), none, none]) ?_ fun S ⟨hh, e⟩ => ?_
  · simp? only [gw, x__law_pick]
    refine ⟨fun ho => ?_, fun ho => hwo.resolve_left ho⟩
    simp? only [oMin_L hns]
    refine take_ok P (by omega) (by omega) fun p0 p1 r P r0 r1 => ?_
    have := f2 r r0
    obtain ⟨t1, t2⟩ := minL_spec hns
    have t3 := allnn _ t1
    simp? only [dv, x__law_pick]
    generalize hc : (if 0 < minL (gs.map fun g => cs.getD g 0) - r.fdiv 2 then minL (gs.map fun g => cs.getD g 0) - r.fdiv 2 else 0) = c
    have hc1 : 0 ≤ c ∧ c ≤ minL (gs.map fun g => cs.getD g 0) := by subst hc; split <;> omega
    refine q _ _ gs c (-1) P (by omega) ⟨by omega, by omega, ltn, hc1.1, ?_, pkN _ _ (.inl fun z => by rw [ho] at z; exact oh z) rfl⟩ far
    unfold mo ev
    rw [if_neg hmk, if_neg (show ¬ (mkS w 1 gs).1 = "pen" from hwp), if_neg (show ¬ (mkS w 1 gs).1 = "house" from fun z => by rw [show (mkS w 1 gs).1 = w from rfl, ho] at z; exact oh z), gvn]
    exact hc1.2
  subst e
  have gsp := List.length_pos_iff.mpr hgs
  simp? only []
  refine take_ok P (by omega) (by omega) fun p0 p1 r P r0 r1 => ?_
  obtain ⟨y, rfl⟩ : ∃ c : Nat, r = c := ⟨r.toNat, by omega⟩
  obtain ⟨g, hg⟩ : ∃ g, gs[y]? = some g := ⟨_, List.getElem?_eq_getElem (by omega)⟩
  have gy : ((gs.map fun g => cs.getD g 0).map D.int)[y]? = some (.int (cs.getD g 0)) := by rw [List.getElem?_map, List.getElem?_map, hg] <;> rfl
  simp? only [gy]
  refine take_ok P (by omega) (by omega) fun p0 p1 r P r0 r1 => ?_
  have := f2 r r0
  have h0g := h0 g
  simp? only [dv, x__law_pick]
  generalize hc : (if 0 < cs.getD g 0 - r.fdiv 2 then cs.getD g 0 - r.fdiv 2 else 0) = c
  have hc1 : 0 ≤ c ∧ c ≤ cs.getD g 0 := by subst hc; split <;> omega
  have hmo : c ≤ mo cs (mkS w 1 gs) := by
    unfold mo ev
    rw [if_neg hmk, if_neg (show ¬ (mkS w 1 gs).1 = "pen" from hwp), if_pos (show (mkS w 1 gs).1 = "house" from hh), gvn]
    exact Int.le_trans hc1.2 ((maxL_spec hns).2 _ (List.mem_map_of_mem (List.mem_of_getElem? hg)))
  refine ⟨fun hz => ?_, fun hz => ?_⟩
  · exact q _ _ gs c (-1) P (by omega) ⟨by omega, by omega, ltn, hc1.1, hmo, pkN _ _ (.inr (by omega)) rfl⟩ far
  · refine q _ _ gs c y P (by omega) ⟨by omega, by omega, ltn, hc1.1, hmo, ?_⟩ far
    unfold Pk
    rw [if_neg (show ¬ ((mkS w 1 gs).1 ≠ "house" ∨ c < 1) from fun z => z.elim (fun z => z hh) (fun z => by omega)), Int.toNat_natCast]
    have hml : (mkS w 1 gs).2.2[y]? = some (Str.ofString "", g) := by unfold mkS; rw [List.getElem?_map, hg] <;> rfl
    have hlen : (mkS w 1 gs).2.2.length = gs.length := by unfold mkS; rw [List.length_map]
    exact ⟨by omega, by rw [hlen]; omega, _, hml, hc1.2⟩
theorem letters_ok {p0 p1 : Int} (P : Pl p0 p1) {n k : Nat} {cs : List Int} (hn : n ≤ 100) (hcl : cs.length = n) (hk : k < n) (h0 : ∀ j, 0 ≤ cs.getD j 0 ∧ cs.getD j 0 ≤ 10 ^ 50) {Q : O → Sl → Prop}
    (q : ∀ (p0 p1 : Int) (gs : List Nat) (a : Int), Pl p0 p1 → Gd n cs "pen" a gs (cs.getD k 0) (-1) → Q (.own (.lst [.lst (gs.map eI), .int a])) [pl p0 p1, some (.own (.lst (cs.map .int))), some (.d (.int k))]) : wpM m__law_letters [.own (.lst [.int p0, .int p1]), .own (.lst (cs.map .int)), .d (.int k)] Q := by
  unfold m__law_letters b__law_letters
  rw [wpM_fm]
  simp only [slots, List.replicate]
  have gk := get_i (u := cs) (i := k) (by omega)
  have h0k := h0 k
  have pkN : ∀ (a : Int) (gs : List Nat), Pk cs (mkS "pen" a gs) (cs.getD k 0) (-1) := fun a gs => by
    unfold Pk
    rw [if_pos (.inl (show (mkS "pen" a gs).1 ≠ "house" from ph))]
  have moP : ∀ (a : Int) (gs : List Nat), gs ≠ [] → mo cs (mkS "pen" a gs) = (gs.map fun g => cs.getD g 0).sum.fdiv a := fun a gs h => by
    unfold mo
    rw [if_neg (fun z => h (mk_nil.mp z)), if_pos (show (mkS "pen" a gs).1 = "pen" from rfl), gv_mk]
    rfl
  refine wp_cut (fun S => ∃ (p0 p1 : Int) (many : Nat), Pl p0 p1 ∧ 1 ≤ many ∧ many ≤ 4 ∧ S = [pl p0 p1, some (.own (.lst (cs.map .int))), some (.d (.int k)), some (.d (.int many)), none, none, none, none, none]) ?_ fun S ⟨p0, p1, many, P, m1, m2, e⟩ => ?_
  · simp? only []
    refine take_ok P (by omega) (by omega) fun p0 p1 r P r0 r1 => ?_
    simp? only []
    exact ⟨p0, p1, (1 + r).toNat, P, by omega, by omega, by rw [Int.toNat_of_nonneg (by omega)]⟩
  subst e
  refine wp_cut (fun S => ∃ (p0 p1 : Int) (many : Nat), Pl p0 p1 ∧ 1 ≤ many ∧ many ≤ 12 ∧ S = [pl p0 p1, some (.own (.lst (cs.map .int))), some (.d (.int k)), some (.d (.int many)), none, none, none, none, none]) ?_ fun S ⟨p0, p1, many, P, m1, m2, e⟩ => ?_
  · simp? only []
    refine take_ok P (by omega) (by omega) fun p0 p1 r P r0 r1 => ?_
    simp? only []
    exact ⟨fun _ => ⟨p0, p1, 12, P, by omega, by omega, rfl⟩, fun _ => ⟨p0, p1, many, P, m1, by omega, rfl⟩⟩
  subst e
  refine wp_cut (fun S => ∃ (p0 p1 : Int) (gs : List Nat) (x5 : Option O), Pl p0 p1 ∧ gs.length = many ∧ (∀ g ∈ gs, g < n) ∧ S = [pl p0 p1, some (.own (.lst (cs.map .int))), some (.d (.int k)), some (.d (.int many)), some (.own (.lst (gs.map eI))), x5, none, none, none]) ?_ fun S ⟨p0, p1, gs, x5, P, gl, ga, e⟩ => ?_
  · have him : i62 (many : Int) = true := i62_nat (by omega)
    simp? only [him, Int.toNat_natCast, rangeD_nat]
    refine wp_comp (enc := eI) (as := List.range many) (J := fun pre acc S => ∃ (p0 p1 : Int) (gs : List Nat), Pl p0 p1 ∧ gs.length = pre.length ∧ (∀ g ∈ gs, g < n) ∧ acc = gs.map eI ∧ S = [pl p0 p1, some (.own (.lst (cs.map .int))), some (.d (.int k)), some (.d (.int many)), none, none, none, none, none]) (by rw [List.length_range, lim_eq]; omega) ⟨p0, p1, [], P, rfl, fun g h => by simp at h, rfl, rfl⟩ (fun pre i post e acc S ⟨p0, p1, gs, P, h1, h2, ea, eS⟩ => ?_) (fun acc S ⟨p0, p1, gs, P, h1, h2, ea, eS⟩ => ?_)
    · subst ea eS
      simp? only [hcl]
      refine take_ok P (by omega) (by omega) fun p0 p1 r P r0 r1 => ?_
      obtain ⟨y, rfl⟩ : ∃ c : Nat, r = c := ⟨r.toNat, by omega⟩
      simp? only []
      refine ⟨p0, p1, gs ++ [y], P, by simp [h1], fun x hx => ?_, by rw [snocI], rfl⟩
      rcases List.mem_append.mp hx with z | z
      · exact h2 x z
      · have : x = y := by simpa using z
        omega
    · subst ea eS
      rw [List.length_range] at h1
      simp? only []
      exact ⟨p0, p1, gs, none, P, h1, h2, rfl⟩
  subst e
  have sumnn : ∀ l : List Nat, 0 ≤ (l.map fun g => cs.getD g 0).sum := fun l => by
    induction l with
    | nil => exact Int.le_refl _
    | cons g l ih => rw [List.map_cons, List.sum_cons]; have := (h0 g).1; omega
  refine wp_cutR (fun S => 0 < cs.getD k 0 ∧ S = [pl p0 p1, some (.own (.lst (cs.map .int))), some (.d (.int k)), some (.d (.int many)), some (.own (.lst (gs.map eI))), x5, none, none, none]) ?_ fun S ⟨hc, e⟩ => ?_
  · simp? only [gk]
    refine ⟨fun hz => ?_, fun hz => by omega⟩
    refine take_ok P (by omega) (by omega) fun p0 p1 r P r0 r1 => ?_
    simp? only [cutD_map]
    generalize hcut : List.take _ (List.drop _ gs) = gs'
    have sub : ∀ g ∈ gs', g ∈ gs := fun g hg => by rw [← hcut] at hg; exact List.mem_of_mem_drop (List.mem_of_mem_take hg)
    have len : gs'.length ≤ gs.length := by rw [← hcut, List.length_take, List.length_drop]; omega
    refine take_ok P (by omega) (by omega) fun p0 p1 r' P r0' r1' => ?_
    simp? only [x__law_letters]
    refine q _ _ gs' (1 + r') P ⟨by omega, by omega, fun g hg => ga g (sub g hg), by omega, ?_, pkN _ _⟩
    rw [hz]
    by_cases hn' : gs' = []
    · unfold mo
      rw [if_pos (mk_nil.mpr hn')]; exact Int.le_refl _
    · rw [moP _ _ hn']
      exact fdiv_nn (sumnn gs') (by omega)
  subst e
  refine wp_cut (fun S => ∃ x7, S = [pl p0 p1, some (.own (.lst (cs.map .int))), some (.d (.int k)), some (.d (.int many)), some (.own (.lst (gs.map eI))), x5, some (.d (.int (gs.map fun g => cs.getD g 0).sum)), x7, none]) ?_ fun S ⟨x7, e⟩ => ?_
  · simp? only []
    refine wp_compOP (enc := eI) (as := gs) (out := fun g => D.int (cs.getD g 0)) rfl (by rw [lim_eq]; omega) (fun g hg => ?_) ?_
    · have g2 := get_i (u := cs) (i := g) (by rw [hcl]; exact ga g hg)
      simp? only [eI_eq, g2]
    · rw [goalsI]
      simp? only [oSum_own]
      exact ⟨none, rfl⟩
  subst e
  refine wp_cut (fun S => ∃ (gs : List Nat) (r4 : O) (x5 x7 : Option O), gs.length = many ∧ (∀ g ∈ gs, g < n) ∧ cs.getD k 0 ≤ (gs.map fun g => cs.getD g 0).sum ∧ (r4 = .own (.lst (gs.map eI)) ∨ r4 = .d (.lst (gs.map eI))) ∧ S = [pl p0 p1, some (.own (.lst (cs.map .int))), some (.d (.int k)), some (.d (.int many)), some r4, x5, some (.d (.int (gs.map fun g => cs.getD g 0).sum)), x7, none]) ?_ fun S ⟨gs, r4, x5, x7, gl, ga, hsum, hr4, e⟩ => ?_
  · have hx : ixN gs.length 0 = some 0 := ixN_n (k := 0) (by omega)
    have seti : (gs.map eI).set 0 (.int (k : Int)) = (gs.set 0 k).map eI := by rw [List.map_set] <;> rfl
    simp? only [gk]
    refine ⟨fun h => ?_, fun h => ⟨gs, _, x5, x7, gl, ga, by omega, .inl rfl, rfl⟩⟩
    simp? only [hx, seti]
    have ga' : ∀ g ∈ gs.set 0 k, g < n := fun g hg => by
      rcases List.mem_or_eq_of_mem_set hg with z | z
      · exact ga g z
      · omega
    refine wp_compP (enc := eI) (as := gs.set 0 k) (out := fun g => D.int (cs.getD g 0)) (by rw [lim_eq, List.length_set]; omega) (fun g hg => ?_) ?_
    · have g2 := get_i (u := cs) (i := g) (by rw [hcl]; exact ga' g hg)
      simp? only [eI_eq, g2]
    · rw [goalsI]
      simp? only [oSum_own]
      refine ⟨gs.set 0 k, .d (.lst ((gs.set 0 k).map eI)), x5, _, by rw [List.length_set]; exact gl, ga', ?_, .inr rfl, rfl⟩
      cases gs with
      | nil => simp at gl; omega
      | cons g0 rest =>
        rw [List.set_cons_zero, List.map_cons, List.sum_cons]
        have := sumnn rest
        omega
  subst e
  generalize hT : (gs.map fun g => cs.getD g 0).sum = T at hsum
  have hgs : gs ≠ [] := List.ne_nil_of_length_pos (by omega)
  have dvc : divOk (cs.getD k 0) = true := divOk_100 (by omega) (by omega)
  have pw : powOk 10 12 = true := by decide +kernel
  have e12 : (10 : Int) ^ (12 : Int).toNat = 10 ^ 12 := rfl
  have one := (le_fdiv (a := cs.getD k 0) (c := 1) (t := T) (by omega)).mpr (by omega)
  have goodA : ∀ a : Int, 1 ≤ a → a ≤ 10 ^ 12 → a ≤ T.fdiv (cs.getD k 0) → Gd n cs "pen" a gs (cs.getD k 0) (-1) := fun a a1 a2 a3 => by
    refine ⟨⟨a1, a2⟩, by omega, ga, by omega, ?_, pkN _ _⟩
    rw [moP _ _ hgs, hT, le_fdiv a1, Int.mul_comm]
    exact (le_fdiv (by omega)).mp a3
  refine wp_cut (fun S => ∃ (p0 p1 a : Int), Pl p0 p1 ∧ Gd n cs "pen" a gs (cs.getD k 0) (-1) ∧ a ≤ T.fdiv (cs.getD k 0) ∧ S = [pl p0 p1, some (.own (.lst (cs.map .int))), some (.d (.int k)), some (.d (.int many)), some r4, x5, some (.d (.int T)), x7, some (.d (.int a))]) ?_ fun S ⟨p0, p1, a, P, hG, ha, e⟩ => ?_
  · simp? only [gk, pw, e12, dvc]
    by_cases h : T.fdiv (cs.getD k 0) < 10 ^ 12
    · rw [if_pos h]
      exact ⟨_, _, _, P, goodA _ one (by omega) (Int.le_refl _), Int.le_refl _, rfl⟩
    · rw [if_neg h]
      exact ⟨_, _, _, P, goodA _ (by omega) (by omega) (by omega), by omega, rfl⟩
  subst e
  refine wp_cut (fun S => ∃ (p0 p1 a : Int), Pl p0 p1 ∧ Gd n cs "pen" a gs (cs.getD k 0) (-1) ∧ S = [pl p0 p1, some (.own (.lst (cs.map .int))), some (.d (.int k)), some (.d (.int many)), some r4, x5, some (.d (.int T)), x7, some (.d (.int a))]) ?_ fun S ⟨p0, p1, a, P, hG, e⟩ => ?_
  · have ak := hG.ak
    simp? only []
    refine take_ok P (by omega) (by omega) fun p0 p1 r P r0 r1 => ?_
    simp? only []
    refine ⟨fun _ => ?_, fun _ => ⟨_, _, _, P, hG, rfl⟩⟩
    refine take_ok P (by omega) (by omega) fun p0 p1 r P r0 r1 => ?_
    simp? only []
    exact ⟨_, _, _, P, goodA _ (by omega) (by omega) (by omega), rfl⟩
  subst e
  rcases hr4 with rfl | rfl
  all_goals
    simp? only [x__law_letters]
    exact q _ _ gs a P hG
end L_k17

namespace L_k17
open PySem PySem.Spec L2 FR
theorem gv_nil {u : List Int} {s : Std} : gv u s = [] ↔ s.2.2 = [] := by
  unfold gv
  simp
theorem Pk_gv {u : List Int} {s : Std} {c m : Int} : Pk u s c m ↔ (if s.1 ≠ "house" ∨ c < 1 then m = -1 else 0 ≤ m ∧ m < (gv u s).length ∧ ∃ y : Int, (gv u s)[m.toNat]? = some y ∧ c ≤ y) := by
  unfold Pk
  by_cases h : s.1 ≠ "house" ∨ c < 1
  · rw [if_pos h, if_pos h]
  · rw [if_neg h, if_neg h, gv_len]
    refine and_congr_right fun _ => and_congr_right fun _ => ⟨fun ⟨mv, h1, h2⟩ => ⟨u.getD mv.2 0, by unfold gv; rw [List.getElem?_map, h1] <;> rfl, h2⟩, fun ⟨y, h1, h2⟩ => ?_⟩
    unfold gv at h1
    rw [List.getElem?_map] at h1
    obtain ⟨mv, h3, rfl⟩ := Option.map_eq_some_iff.mp h1
    exact ⟨mv, h3, h2⟩
theorem same_std {s t : Std} {u v : List Int} (h1 : s.1 = t.1) (h2 : s.2.1 = t.2.1) (h3 : gv u s = gv v t) : mo u s = mo v t ∧ ∀ c m, (Pk u s c m ↔ Pk v t c m) := by
  have hn : s.2.2 = [] ↔ t.2.2 = [] := by rw [← gv_nil (u := u), h3, gv_nil]
  refine ⟨?_, fun c m => by rw [Pk_gv, Pk_gv, h1, h3]⟩
  unfold mo ev
  rw [h1, h2, h3]
  by_cases h : s.2.2 = []
  · rw [if_pos h, if_pos (hn.mp h)]
  · rw [if_neg h, if_neg (fun z => h (hn.mpr z))]
abbrev Pt := List Nat × Int
def ePt (p : Pt) : D := .lst [.lst (p.1.map eI), .int p.2]
theorem get_ePt {l : List Pt} {i : Nat} {p : Pt} (h : l[i]? = some p) : (l.map ePt)[i]? = some (.lst [.lst (p.1.map eI), .int p.2]) := by
  rw [List.getElem?_map, h] <;> rfl
/-- all that is planted -/
structure Plant (n : Nat) (ows : List Str) (pts : List Pt) (cs pn : List Int) : Prop where
  lo : ows.length = n
  lp : pts.length = n
  lc : cs.length = n
  ln : pn.length = n
  w3 : ∀ w ∈ ows, W3 w
  bd : ∀ j, 0 ≤ cs.getD j 0 ∧ cs.getD j 0 ≤ 10 ^ 50
  gd : ∀ (k : Nat) (w : Str) (p : Pt), ows[k]? = some w → pts[k]? = some p → Gd n cs w p.2 p.1 (cs.getD k 0) (pn.getD k 0)
/-- where it is put -/
structure Put (n : Nat) (ows : List Str) (pts : List Pt) (cs pn : List Int) (b : List Std) (od : List Nat) (U V : List Int) : Prop where
  hp : od.Perm (List.range n)
  lb : b.length = n
  lU : U.length = n
  lV : V.length = n
  at_ : ∀ (k j : Nat), od[k]? = some j → U.getD j 0 = cs.getD k 0 ∧ V.getD j 0 = pn.getD k 0
  st : ∀ (k j : Nat) (w : Str) (p : Pt), od[k]? = some j → ows[k]? = some w → pts[k]? = some p → ∃ s : Std, b[j]? = some s ∧ s.1 = w ∧ s.2.1 = p.2 ∧ s.2.2.map (·.2) = p.1.map fun g => od.getD g 0
theorem Put.gv {n : Nat} {ows : List Str} {pts : List Pt} {cs pn : List Int} {b : List Std} {od : List Nat} {U V : List Int} (h : Put n ows pts cs pn b od U V) {w : Str} {p : Pt} (hlt : ∀ g ∈ p.1, g < n) {s : Std} (hs : s.2.2.map (·.2) = p.1.map fun g => od.getD g 0) : L_k17.gv U s = L_k17.gv cs (mkS w p.2 p.1) := by
  rw [gv_mk]
  unfold L_k17.gv
  have e : s.2.2.map (fun m => U.getD m.2 0) = (s.2.2.map (·.2)).map fun j => U.getD j 0 := by rw [List.map_map] <;> rfl
  rw [e, hs, List.map_map]
  refine List.map_congr_left fun g hg => ?_
  obtain ⟨j, hj, _⟩ := perm_getE h.hp (hlt g hg)
  show U.getD (od.getD g 0) 0 = cs.getD g 0
  have e2 : od.getD g 0 = j := by rw [List.getD_eq_getElem?_getD, hj] <;> rfl
  rw [e2]
  exact (h.at_ g j hj).1
theorem Put.back {n : Nat} {ows : List Str} {pts : List Pt} {cs pn : List Int} {b : List Std} {od : List Nat} {U V : List Int} (L : Plant n ows pts cs pn) (h : Put n ows pts cs pn b od U V) {j : Nat} {s : Std} (hs : b[j]? = some s) : ∃ (k : Nat) (w : Str) (p : Pt), od[k]? = some j ∧ ows[k]? = some w ∧ pts[k]? = some p ∧ s.1 = w ∧ s.2.1 = p.2 ∧ s.2.2.map (·.2) = p.1.map fun g => od.getD g 0 := by
  have hj := (List.getElem?_eq_some_iff.mp hs).1
  have lb := h.lb
  obtain ⟨k, hk, e⟩ := perm_at h.hp (show j < n by omega)
  have ho := List.getElem?_eq_getElem (l := ows) (i := k) (by rw [L.lo]; exact hk)
  have hp := List.getElem?_eq_getElem (l := pts) (i := k) (by rw [L.lp]; exact hk)
  obtain ⟨s', h1, h2⟩ := h.st k j _ _ e ho hp
  rw [hs] at h1
  cases h1
  exact ⟨k, _, _, e, ho, hp, h2⟩
theorem Put.wf {n : Nat} {ows : List Str} {pts : List Pt} {cs pn : List Int} {b : List Std} {od : List Nat} {U V : List Int} (hn : n ≤ 100) (L : Plant n ows pts cs pn) (h : Put n ows pts cs pn b od U V) : Wf b := by
  have lb := h.lb
  have bk : ∀ s ∈ b, ∃ (k : Nat) (w : Str) (p : Pt), ows[k]? = some w ∧ pts[k]? = some p ∧ s.1 = w ∧ s.2.1 = p.2 ∧ s.2.2.map (·.2) = p.1.map fun g => od.getD g 0 := fun s hs => by
    obtain ⟨j, hj, e⟩ := List.getElem_of_mem hs
    obtain ⟨k, w, p, _, r⟩ := h.back L (show b[j]? = some s by rw [List.getElem?_eq_getElem hj, e])
    exact ⟨k, w, p, r⟩
  refine ⟨by omega, fun s hs => ?_, fun s hs m hm => ?_, fun s hs => ?_, fun s hs => ?_⟩
  · obtain ⟨k, w, p, h1, h2, _, _, h5⟩ := bk s hs
    have := (L.gd k w p h1 h2).ln
    have e := congrArg List.length h5
    simp at e
    omega
  · obtain ⟨k, w, p, h1, h2, _, _, h5⟩ := bk s hs
    have h6 : m.2 ∈ s.2.2.map (·.2) := List.mem_map_of_mem hm
    rw [h5] at h6
    obtain ⟨g, hg, e⟩ := List.mem_map.mp h6
    obtain ⟨j, hj, hjn⟩ := perm_getE h.hp ((L.gd k w p h1 h2).lt g hg)
    rw [List.getD_eq_getElem?_getD, hj] at e
    have : j = m.2 := e
    omega
  · obtain ⟨k, w, p, h1, _, h3, _, _⟩ := bk s hs
    rw [h3]
    exact L.w3 w (List.mem_of_getElem? h1)
  · obtain ⟨k, w, p, h1, h2, _, h4, _⟩ := bk s hs
    rw [h4]
    exact (L.gd k w p h1 h2).ak
theorem Put.fit {n : Nat} {ows : List Str} {pts : List Pt} {cs pn : List Int} {b : List Std} {od : List Nat} {U V : List Int} (L : Plant n ows pts cs pn) (h : Put n ows pts cs pn b od U V) {st : Nat} (hs : 1 ≤ U.getD st 0) : FitP b st U V := by
  have lU := h.lU
  have nn : ∀ j, 0 ≤ U.getD j 0 := fun j => by
    rcases Nat.lt_or_ge j n with z | z
    · obtain ⟨k, _, e⟩ := perm_at h.hp z
      rw [(h.at_ k j e).1]
      exact (L.bd k).1
    · rw [List.getD_eq_getElem?_getD, List.getElem?_eq_none (by omega)]; exact Int.le_refl _
  have each : ∀ (j : Nat) (s : Std), b[j]? = some s → U.getD j 0 ≤ mo U s ∧ Pk U s (U.getD j 0) (V.getD j 0) := fun j s hs => by
    obtain ⟨k, w, p, e, h1, h2, h3, h4, h5⟩ := h.back L hs
    have G := L.gd k w p h1 h2
    obtain ⟨m1, m2⟩ := same_std (s := s) (t := mkS w p.2 p.1) (u := U) (v := cs) h3 h4 (h.gv G.lt h5)
    obtain ⟨e1, e2⟩ := h.at_ k j e
    rw [m1, m2, e1, e2]
    exact ⟨G.mo, G.pk⟩
  refine ⟨fun y hy => ?_, hs, (Clo_iff (by rw [h.lU, h.lb])).mpr fun i s hs => (each i s hs).1, fun i s hs => (each i s hs).2⟩
  obtain ⟨j, hj, e⟩ := List.getElem_of_mem hy
  have := nn j
  rw [getD_of (List.getElem?_eq_getElem hj), e] at this
  exact this
theorem put_ok {p0 p1 : Int} (P : Pl p0 p1) {n dn : Nat} {ows : List Str} {pts : List Pt} {cs pn : List Int} (hn : n ≤ 100) (hd : dn < n) (L : Plant n ows pts cs pn) (h1 : 1 ≤ cs.getD dn 0) {Q : O → Sl → Prop}
    (q : ∀ (p0 p1 : Int) (b : List Std) (od : List Nat) (U V : List Int) (st : Nat), Pl p0 p1 → Put n ows pts cs pn b od U V → st < n → 1 ≤ U.getD st 0 → Q (.own (.lst ([.tup (b.map eS), .tup (U.map .int), .tup (V.map .int), .int (st : Int)] ++ (od.drop dn).map eI))) [pl p0 p1, some (.d (.lst (ows.map .str))), some (.own (.lst (pts.map ePt))), some (.own (.lst (cs.map .int))), some (.own (.lst (pn.map .int))), some (.d (.int dn))]) : wpM m__law_put [.own (.lst [.int p0, .int p1]), .d (.lst (ows.map .str)), .own (.lst (pts.map ePt)), .own (.lst (cs.map .int)), .own (.lst (pn.map .int)), .d (.int dn)] Q := by
  obtain ⟨lo, lp, lc, ln, w3, bd, gd⟩ := L
  unfold m__law_put b__law_put
  rw [wpM_fm]
  simp only [slots, List.replicate]
  have hi : i62 (n : Int) = true := i62_nat (by omega)
  generalize hsg : (List.range n).map (fun k => ((ows.getD k (Str.ofString ""), (pts.getD k ([], 0)).2, (pts.getD k ([], 0)).1) : Sg)) = sgs
  have sl : sgs.length = n := by rw [← hsg, List.length_map, List.length_range]
  have sget : ∀ (k : Nat) (w : Str) (p : Pt), ows[k]? = some w → pts[k]? = some p → sgs[k]? = some (w, p.2, p.1) := fun k w p hw hp => by
    have hk := (List.getElem?_eq_some_iff.mp hw).1
    rw [← hsg, List.getElem?_map, List.getElem?_range (by omega), Option.map_some, List.getD_eq_getElem?_getD, List.getD_eq_getElem?_getD, hw, hp]
    rfl
  refine wp_cut (fun S => ∃ x7, S = [pl p0 p1, some (.d (.lst (ows.map .str))), some (.own (.lst (pts.map ePt))), some (.own (.lst (cs.map .int))), some (.own (.lst (pn.map .int))), some (.d (.int dn)), some (.own (.lst (sgs.map eG))), x7, none, none, none, none, none, none]) ?_ fun S h => ?_
  · simp? only [lo, hi, Int.toNat_natCast, rangeD_nat]
    refine wp_compP (enc := eI) (as := List.range n) (out := fun k => eG ((ows.getD k (Str.ofString ""), (pts.getD k ([], 0)).2, (pts.getD k ([], 0)).1) : Sg)) (by rw [List.length_range, lim_eq]; omega) (fun k hk => ?_) ?_
    · have hkn := List.mem_range.mp hk
      obtain ⟨w, hw⟩ : ∃ w, ows[k]? = some w := ⟨_, List.getElem?_eq_getElem (by omega)⟩
      obtain ⟨p, hp⟩ : ∃ p, pts[k]? = some p := ⟨_, List.getElem?_eq_getElem (by omega)⟩
      have gw := get_str hw
      have gp := get_ePt hp
      simp? only [eI_eq, gw, gp]
      rw [List.getD_eq_getElem?_getD, List.getD_eq_getElem?_getD, hw, hp]
      rfl
    · have e : (List.range n).map (fun k => eG ((ows.getD k (Str.ofString ""), (pts.getD k ([], 0)).2, (pts.getD k ([], 0)).1) : Sg)) = sgs.map eG := by rw [← hsg, List.map_map] <;> rfl
      rw [e]
      simp? only []
      exact ⟨none, rfl⟩
  obtain ⟨x7, rfl⟩ := h
  refine wp_cut (fun S => ∃ (p0 p1 : Int) (b : List Std) (od : List Nat), Pl p0 p1 ∧ od.Perm (List.range n) ∧ b.length = n ∧ (∀ (k j : Nat) (sg : Sg), od[k]? = some j → sgs[k]? = some sg → ∃ st, b[j]? = some st ∧ Pz od sg st) ∧ S = [pl p0 p1, some (.d (.lst (ows.map .str))), some (.own (.lst (pts.map ePt))), some (.own (.lst (cs.map .int))), some (.own (.lst (pn.map .int))), some (.d (.int dn)), some (.own (.lst (sgs.map eG))), x7, some (.d (.tup (b.map eS))), some (.d (.lst (od.map eI))), none, none, none, none]) ?_ fun S h => ?_
  · simp? only []
    refine placed_ok (n := n) P (by omega) sl (fun s hs => ?_) fun p0 p1 b od P hp lb pz => ?_
    · obtain ⟨k, hk, e⟩ := List.getElem_of_mem hs
      have hw := List.getElem?_eq_getElem (l := ows) (i := k) (by omega)
      have hp := List.getElem?_eq_getElem (l := pts) (i := k) (by omega)
      have G := gd k _ _ hw hp
      have e2 := sget k _ _ hw hp
      rw [List.getElem?_eq_getElem hk, e] at e2
      cases e2
      exact ⟨G.ln, G.lt⟩
    simp? only []
    exact ⟨p0, p1, b, od, P, hp, lb, pz, rfl⟩
  clear P
  obtain ⟨p0, p1, b, od, P, hp, lb, pz, rfl⟩ := h
  refine wp_cut (fun S => S = [pl p0 p1, some (.d (.lst (ows.map .str))), some (.own (.lst (pts.map ePt))), some (.own (.lst (cs.map .int))), some (.own (.lst (pn.map .int))), some (.d (.int dn)), some (.own (.lst (sgs.map eG))), x7, some (.d (.tup (b.map eS))), some (.d (.lst (od.map eI))), some (.own (.lst ((List.replicate n (0 : Int)).map .int))), none, none, none]) ?_ fun S e => ?_
  · simp? only [lo, aMul_rep1 (show n ≤ 1000000 by omega)]
    rw [List.map_replicate]
  subst e
  refine wp_cut (fun S => S = [pl p0 p1, some (.d (.lst (ows.map .str))), some (.own (.lst (pts.map ePt))), some (.own (.lst (cs.map .int))), some (.own (.lst (pn.map .int))), some (.d (.int dn)), some (.own (.lst (sgs.map eG))), x7, some (.d (.tup (b.map eS))), some (.d (.lst (od.map eI))), some (.own (.lst ((List.replicate n (0 : Int)).map .int))), some (.own (.lst ((List.replicate n (-1 : Int)).map .int))), none, none]) ?_ fun S e => ?_
  · simp? only [lo, aMul_rep1 (show n ≤ 1000000 by omega)]
    rw [List.map_replicate (a := (-1 : Int))]
  subst e
  refine wp_cut (fun S => ∃ (U V : List Int) (x7 : Option O), U.length = n ∧ V.length = n ∧ (∀ k j : Nat, od[k]? = some j → U[j]? = cs[k]? ∧ V[j]? = pn[k]?) ∧ S = [pl p0 p1, some (.d (.lst (ows.map .str))), some (.own (.lst (pts.map ePt))), some (.own (.lst (cs.map .int))), some (.own (.lst (pn.map .int))), some (.d (.int dn)), some (.own (.lst (sgs.map eG))), x7, some (.d (.tup (b.map eS))), some (.d (.lst (od.map eI))), some (.own (.lst (U.map .int))), some (.own (.lst (V.map .int))), none, none]) ?_ fun S h => ?_
  · simp? only [lo, hi, Int.toNat_natCast]
    refine wp_forR (J := fun i S => ∃ (U V : List Int) (x7 : Option O), U.length = n ∧ V.length = n ∧ (∀ k j : Nat, k < i → od[k]? = some j → U[j]? = cs[k]? ∧ V[j]? = pn[k]?) ∧ S = [pl p0 p1, some (.d (.lst (ows.map .str))), some (.own (.lst (pts.map ePt))), some (.own (.lst (cs.map .int))), some (.own (.lst (pn.map .int))), some (.d (.int dn)), some (.own (.lst (sgs.map eG))), x7, some (.d (.tup (b.map eS))), some (.d (.lst (od.map eI))), some (.own (.lst (U.map .int))), some (.own (.lst (V.map .int))), none, none]) ⟨_, _, _, List.length_replicate, List.length_replicate, fun k j h => by omega, rfl⟩ (fun i hin S ⟨U, V, x7, lU, lV, hUV, e⟩ => ?_) (fun S ⟨U, V, x7, lU, lV, hUV, e⟩ => ?_)
    · subst e
      obtain ⟨j, hj, hjn⟩ := perm_getE hp hin
      have gj := get_eI hj
      have gc := get_i (u := cs) (i := i) (by omega)
      have gn := get_i (u := pn) (i := i) (by omega)
      have xU : ixN U.length (j : Int) = some j := ixN_n (by omega)
      have xV : ixN V.length (j : Int) = some j := ixN_n (by omega)
      simp? only [gj, gc, gn, xU, xV]
      have setI : ∀ (l : List Int) (x : Int), (l.map D.int).set j (.int x) = (l.set j x).map .int := fun l x => by rw [List.map_set]
      refine ⟨U.set j (cs.getD i 0), V.set j (pn.getD i 0), _, by rw [List.length_set]; exact lU, by rw [List.length_set]; exact lV, fun k j' hk hj' => ?_, by rw [setI, setI] <;> rfl⟩
      rcases Nat.lt_or_ge k i with z | z
      · have : j ≠ j' := fun h => by
          subst h
          have h1 := (perm_get hp hj).2.2
          have h2 := (perm_get hp hj').2.2
          omega
        rw [List.getElem?_set_ne this, List.getElem?_set_ne this]
        exact hUV k j' z hj'
      · have : k = i := by omega
        subst this
        rw [hj] at hj'
        cases hj'
        rw [List.getElem?_set_self (by omega), List.getElem?_set_self (by omega), List.getD_eq_getElem?_getD, List.getD_eq_getElem?_getD, List.getElem?_eq_getElem (by omega), List.getElem?_eq_getElem (by omega)]
        exact ⟨rfl, rfl⟩
    · subst e
      exact ⟨rfl, U, V, x7, lU, lV, fun k j h => hUV k j (perm_get hp h).2.1 h, rfl⟩
  obtain ⟨U, V, x7, lU, lV, hUV, rfl⟩ := h
  have PU : Put n ows pts cs pn b od U V := ⟨hp, lb, lU, lV, fun k j h => by
    obtain ⟨e1, e2⟩ := hUV k j h
    rw [List.getD_eq_getElem?_getD, List.getD_eq_getElem?_getD, List.getD_eq_getElem?_getD, List.getD_eq_getElem?_getD, e1, e2]
    exact ⟨rfl, rfl⟩, fun k j w p h hw hpt => by
    obtain ⟨st, h1, h2⟩ := pz k j _ h (sget k w p hw hpt)
    exact ⟨st, h1, h2.ow, h2.ak, h2.mv⟩⟩
  obtain ⟨jd, hjd, jdn⟩ := perm_getE hp hd
  have hUd : 1 ≤ U.getD jd 0 := by rw [(PU.at_ dn jd hjd).1]; exact h1
  refine wp_cut (fun S => ∃ (ins : List Nat) (x7 : Option O), ins ≠ [] ∧ ins.length ≤ n ∧ (∀ j ∈ ins, j < n ∧ 1 ≤ U.getD j 0) ∧ S = [pl p0 p1, some (.d (.lst (ows.map .str))), some (.own (.lst (pts.map ePt))), some (.own (.lst (cs.map .int))), some (.own (.lst (pn.map .int))), some (.d (.int dn)), some (.own (.lst (sgs.map eG))), x7, some (.d (.tup (b.map eS))), some (.d (.lst (od.map eI))), some (.own (.lst (U.map .int))), some (.own (.lst (V.map .int))), some (.own (.lst (ins.map eI))), none]) ?_ fun S h => ?_
  · simp? only [lo, hi, Int.toNat_natCast, rangeD_nat]
    refine wp_comp (enc := eI) (as := List.range n) (J := fun pre acc S => ∃ (ins : List Nat), ins.length ≤ pre.length ∧ (∀ j ∈ ins, j < n ∧ 1 ≤ U.getD j 0) ∧ (∀ j ∈ pre, 1 ≤ U.getD j 0 → j ∈ ins) ∧ acc = ins.map eI ∧ S = [pl p0 p1, some (.d (.lst (ows.map .str))), some (.own (.lst (pts.map ePt))), some (.own (.lst (cs.map .int))), some (.own (.lst (pn.map .int))), some (.d (.int dn)), some (.own (.lst (sgs.map eG))), none, some (.d (.tup (b.map eS))), some (.d (.lst (od.map eI))), some (.own (.lst (U.map .int))), some (.own (.lst (V.map .int))), none, none]) (by rw [List.length_range, lim_eq]; omega) ⟨[], Nat.le_refl _, fun g h => by simp at h, fun g h => by simp at h, rfl, rfl⟩ (fun pre j post e acc S ⟨ins, i1, i2, i3, ea, eS⟩ => ?_) (fun acc S ⟨ins, i1, i2, i3, ea, eS⟩ => ?_)
    · subst ea eS
      have hj : j < n := List.mem_range.mp (by rw [e]; simp)
      have gU := get_i (u := U) (i := j) (by omega)
      simp? only [eI_eq, gU]
      refine ⟨fun h => ⟨ins ++ [j], by simp; omega, fun x hx => ?_, fun x hx hx2 => ?_, by rw [snocI]⟩, fun h => ⟨ins, by simp; omega, i2, fun x hx hx2 => ?_, rfl⟩⟩
      · rcases List.mem_append.mp hx with z | z
        · exact i2 x z
        · have : x = j := by simpa using z
          subst this
          exact ⟨hj, by omega⟩
      · rcases List.mem_append.mp hx with z | z
        · exact List.mem_append_left _ (i3 x z hx2)
        · exact List.mem_append_right _ z
      · rcases List.mem_append.mp hx with z | z
        · exact i3 x z hx2
        · have : x = j := by simpa using z
          subst this
          omega
    · subst ea eS
      simp? only []
      exact ⟨ins, _, List.ne_nil_of_mem (i3 jd (List.mem_range.mpr jdn) hUd), by rw [List.length_range] at i1; exact i1, i2, rfl⟩
  obtain ⟨ins, y7, in0, in1, in2, rfl⟩ := h
  have inp := List.length_pos_iff.mpr in0
  simp? only []
  refine take_ok P (by omega) (by omega) fun p0 p1 r P r0 r1 => ?_
  obtain ⟨y, rfl⟩ : ∃ c : Nat, r = c := ⟨r.toNat, by omega⟩
  obtain ⟨st, hst⟩ : ∃ g, ins[y]? = some g := ⟨_, List.getElem?_eq_getElem (by omega)⟩
  have gst := get_eI hst
  obtain ⟨st1, st2⟩ := in2 st (List.mem_of_getElem? hst)
  have ch := cut_hi (od.map eI) (k := dn) (by rw [List.length_map, hp.length_eq, List.length_range]; omega)
  have hod := hp.length_eq
  rw [List.length_range] at hod
  have hcat : 0 + 1 + 1 + 1 + 1 + (List.drop dn (od.map eI)).length ≤ lim := by rw [List.length_drop, List.length_map, lim_eq]; omega
  simp? only [gst, ch, x__law_put]
  refine ⟨by rw [List.length_drop, List.length_map, lim_eq]; omega, ?_⟩
  have e := q p0 p1 b od U V st P PU st1 st2
  rw [List.map_drop] at e
  exact e
end L_k17

namespace L_k17
open PySem PySem.Spec L2 FR
theorem getD_ne {α : Type} {l : List α} {i j : Nat} {x d : α} (h : i ≠ j) : (l.set i x).getD j d = l.getD j d := by
  rw [List.getD_eq_getElem?_getD, List.getD_eq_getElem?_getD, List.getElem?_set_ne h]
theorem getD_eq {α : Type} {l : List α} {i : Nat} {x d : α} (h : i < l.length) : (l.set i x).getD i d = x := by
  rw [List.getD_eq_getElem?_getD, List.getElem?_set_self h] <;> rfl
theorem getD_bd {l : List Int} {i : Nat} {x c : Int} (h : ∀ j, 0 ≤ l.getD j 0 ∧ l.getD j 0 ≤ c) (hx : 0 ≤ x ∧ x ≤ c) : ∀ j, 0 ≤ (l.set i x).getD j 0 ∧ (l.set i x).getD j 0 ≤ c := fun j => by
  by_cases hj : i = j
  · subst hj
    rcases Nat.lt_or_ge i l.length with z | z
    · rw [getD_eq z]; exact hx
    · rw [List.set_eq_of_length_le z]; exact h i
  · rw [getD_ne hj]; exact h j
theorem Gd.set {n : Nat} {cs : List Int} {w : Str} {a c m : Int} {gs : List Nat} (G : Gd n cs w a gs c m) {k : Nat} {x : Int} (h : ∀ g ∈ gs, g ≠ k) : Gd n (cs.set k x) w a gs c m := by
  have e : gv (cs.set k x) (mkS w a gs) = gv cs (mkS w a gs) := by
    rw [gv_mk, gv_mk]
    exact List.map_congr_left fun g hg => getD_ne (fun z => h g hg z.symm)
  obtain ⟨h1, h2⟩ := same_std (s := mkS w a gs) (t := mkS w a gs) rfl rfl e
  exact ⟨G.ak, G.ln, G.lt, G.nn, by rw [h1]; exact G.mo, (h2 c m).mpr G.pk⟩
/-- what stays through the loops -/
structure Fxx (n dn : Nat) (ows : List Str) (A B E idx : Int) (gate hall : List Nat) (cs pn : List Int) (pts : List Pt) : Prop where
  lc : cs.length = n
  ln : pn.length = n
  lp : pts.length = n
  bd : ∀ j, 0 ≤ cs.getD j 0 ∧ cs.getD j 0 ≤ 10 ^ 50
  a0 : cs.getD dn 0 = A
  a1 : cs.getD (dn + 1) 0 = B
  a2 : cs.getD (dn + 2) 0 = A
  a3 : cs.getD (dn + 3) 0 = B
  a4 : cs.getD (dn + 4) 0 = E
  a5 : cs.getD (dn + 5) 0 = 0
  pp : ∀ k, k < n → ows[k]? = some (Str.ofString "pen") → pn.getD k 0 = -1
  p2 : pn.getD (dn + 2) 0 = -1
  p3 : pn.getD (dn + 3) 0 = idx
  p5 : pn.getD (dn + 5) 0 = -1
  g2 : pts[dn + 2]? = some (gate, 1)
  g3 : pts[dn + 3]? = some (hall, 1)
  g5 : pts[dn + 5]? = some ([], 1)
theorem Fxx.set {n dn : Nat} {ows : List Str} {A B E idx : Int} {gate hall : List Nat} {cs pn : List Int} {pts : List Pt} (F : Fxx n dn ows A B E idx gate hall cs pn pts) {k : Nat} (hk : k < dn) {w : Str} (hw : ows[k]? = some w) (hp : w ≠ Str.ofString "pen") {c m : Int} (hc : 0 ≤ c ∧ c ≤ 10 ^ 50) (p : Pt) : Fxx n dn ows A B E idx gate hall (cs.set k c) (pn.set k m) (pts.set k p) := by
  have ne : ∀ j, dn ≤ j → k ≠ j := fun j h => by omega
  refine ⟨by rw [List.length_set]; exact F.lc, by rw [List.length_set]; exact F.ln, by rw [List.length_set]; exact F.lp, getD_bd F.bd hc, ?_, ?_, ?_, ?_, ?_, ?_, fun j hj ho => ?_, ?_, ?_, ?_, ?_, ?_, ?_⟩
  · rw [getD_ne (ne _ (by omega))]; exact F.a0
  · rw [getD_ne (ne _ (by omega))]; exact F.a1
  · rw [getD_ne (ne _ (by omega))]; exact F.a2
  · rw [getD_ne (ne _ (by omega))]; exact F.a3
  · rw [getD_ne (ne _ (by omega))]; exact F.a4
  · rw [getD_ne (ne _ (by omega))]; exact F.a5
  · have : k ≠ j := fun z => by subst z; rw [hw] at ho; cases ho; exact hp rfl
    rw [getD_ne this]; exact F.pp j hj ho
  · rw [getD_ne (ne _ (by omega))]; exact F.p2
  · rw [getD_ne (ne _ (by omega))]; exact F.p3
  · rw [getD_ne (ne _ (by omega))]; exact F.p5
  · rw [List.getElem?_set_ne (ne _ (by omega))]; exact F.g2
  · rw [List.getElem?_set_ne (ne _ (by omega))]; exact F.g3
  · rw [List.getElem?_set_ne (ne _ (by omega))]; exact F.g5
theorem Fxx.setP {n dn : Nat} {ows : List Str} {A B E idx : Int} {gate hall : List Nat} {cs pn : List Int} {pts : List Pt} (F : Fxx n dn ows A B E idx gate hall cs pn pts) {k : Nat} (hk : k < dn + 2 ∨ k = dn + 4) (p : Pt) : Fxx n dn ows A B E idx gate hall cs pn (pts.set k p) := by
  refine ⟨F.lc, F.ln, by rw [List.length_set]; exact F.lp, F.bd, F.a0, F.a1, F.a2, F.a3, F.a4, F.a5, F.pp, F.p2, F.p3, F.p5, ?_, ?_, ?_⟩
  · rw [List.getElem?_set_ne (by omega)]; exact F.g2
  · rw [List.getElem?_set_ne (by omega)]; exact F.g3
  · rw [List.getElem?_set_ne (by omega)]; exact F.g5
/-- the picks ahead of place dn are good from place j on -/
def NpOk (n dn : Nat) (ows : List Str) (cs pn : List Int) (pts : List Pt) (j : Nat) : Prop := ∀ k, j ≤ k → k < dn → ∀ (w : Str) (p : Pt), ows[k]? = some w → w ≠ Str.ofString "pen" → pts[k]? = some p → Gd n cs w p.2 p.1 (cs.getD k 0) (pn.getD k 0) ∧ ∀ g ∈ p.1, k < g ∨ ows[g]? = some (Str.ofString "pen")
theorem NpOk.step {n dn : Nat} {ows : List Str} {cs pn : List Int} {pts : List Pt} {k : Nat} (h : NpOk n dn ows cs pn pts (k + 1)) (lc : cs.length = n) (ln : pn.length = n) (lp : pts.length = n) (hk : k < n) {w : Str} (hw : ows[k]? = some w) (hp : w ≠ Str.ofString "pen") {c m : Int} {gs : List Nat} (G : Gd n cs w 1 gs c m) (far : ∀ g ∈ gs, k < g ∨ ows[g]? = some (Str.ofString "pen")) : NpOk n dn ows (cs.set k c) (pn.set k m) (pts.set k (gs, 1)) k := by
  have nk : ∀ (j : Nat) (l : List Nat), k ≤ j → (∀ g ∈ l, j < g ∨ ows[g]? = some (Str.ofString "pen")) → ∀ g ∈ l, g ≠ k := fun j l hj hl g hg z => by
    subst z
    rcases hl g hg with y | y
    · omega
    · rw [hw] at y; cases y; exact hp rfl
  intro j hj hjd w' p hw' hp' hpt
  by_cases hjk : k = j
  · subst hjk
    rw [List.getElem?_set_self (by omega)] at hpt
    cases hpt
    rw [hw] at hw'
    cases hw'
    rw [getD_eq (by omega), getD_eq (by omega)]
    exact ⟨G.set (nk k gs (Nat.le_refl _) far), far⟩
  · rw [List.getElem?_set_ne hjk] at hpt
    rw [getD_ne hjk, getD_ne hjk]
    obtain ⟨g1, g2⟩ := h j (by omega) hjd w' p hw' hp' hpt
    exact ⟨g1.set (nk j p.1 (by omega) g2), g2⟩
end L_k17

namespace L_k17
open PySem PySem.Spec L2 FR
/-- what is told of the hall: its place's standing leads to a lesser one, too -/
structure Told (n dn : Nat) (cs : List Int) (ows : List Str) (pts : List Pt) (pn : List Int) : Prop where
  c0 : 1 ≤ cs.getD dn 0
  c1 : cs.getD dn 0 < cs.getD (dn + 1) 0
  c3 : cs.getD (dn + 3) 0 = cs.getD (dn + 1) 0
  p4 : pn.getD (dn + 4) 0 = -1
  h3 : ∃ hall : List Nat, pts[dn + 3]? = some (hall, 1) ∧ dn ∈ hall ∧ ows[dn + 3]? = some (Str.ofString "house")
theorem sum_rep (E : Int) : ∀ m : Nat, (List.replicate m E).sum = m * E
  | 0 => by simp
  | m + 1 => by rw [List.replicate_succ, List.sum_cons, sum_rep E m, Int.natCast_add, Int.add_mul]; omega
theorem gd_self {n : Nat} {cs : List Int} {j ask : Nat} {E : Int} (hj : j < n) (he : cs.getD j 0 = E) (hE : 1 ≤ E) (h1 : 1 ≤ ask) (h2 : ask ≤ 6) : Gd n cs "pen" ask (List.replicate ask j) E (-1) := by
  have eg : gv cs (mkS "pen" ask (List.replicate ask j)) = List.replicate ask E := by rw [gv_mk, List.map_replicate, he]
  refine ⟨by omega, by rw [List.length_replicate]; omega, fun g hg => by rw [List.eq_of_mem_replicate hg]; omega, by omega, ?_, ?_⟩
  · unfold mo
    rw [if_neg (fun z => by rw [mk_nil] at z; have := congrArg List.length z; simp at this; omega), if_pos (show (mkS "pen" ask (List.replicate ask j)).1 = "pen" from rfl), eg, sum_rep]
    exact (le_fdiv (show (1 : Int) ≤ ask by omega)).mpr (Int.le_refl _)
  · unfold Pk
    rw [if_pos (.inl (show (mkS "pen" ask (List.replicate ask j)).1 ≠ "house" from ph))]
theorem gd_gate {n dn : Nat} {cs : List Int} {A B : Int} {gate : List Nat} (hd : dn + 6 ≤ n) (a0 : cs.getD dn 0 = A) (a1 : cs.getD (dn + 1) 0 = B) (hA : 1 ≤ A) (hB : A < B) (hg : gate = [dn, dn + 1] ∨ gate = [dn + 1, dn]) : Gd n cs "outside" 1 gate A (-1) := by
  have op' : (Str.ofString "outside") ≠ Str.ofString "pen" := fun z => po z.symm
  have gl : gate ≠ [] := by rcases hg with h | h <;> (rw [h]; simp)
  have eg : gv cs (mkS "outside" 1 gate) = [A, B] ∨ gv cs (mkS "outside" 1 gate) = [B, A] := by
    rw [gv_mk]
    rcases hg with h | h
    · left; rw [h]; simp only [List.map_cons, List.map_nil, a0, a1]
    · right; rw [h]; simp only [List.map_cons, List.map_nil, a0, a1]
  refine ⟨by omega, by rcases hg with h | h <;> (rw [h]; simp), fun g hgm => ?_, by omega, ?_, ?_⟩
  · rcases hg with h | h
    · rw [h] at hgm; simp only [List.mem_cons, List.not_mem_nil, or_false] at hgm; omega
    · rw [h] at hgm; simp only [List.mem_cons, List.not_mem_nil, or_false] at hgm; omega
  · unfold mo ev
    rw [if_neg (fun z => gl (mk_nil.mp z)), if_neg (show ¬ (mkS "outside" 1 gate).1 = "pen" from op'), if_neg (show ¬ (mkS "outside" 1 gate).1 = "house" from oh)]
    obtain ⟨t1, _⟩ := minL_spec (ns := gv cs (mkS "outside" 1 gate)) (fun z => gl (mk_nil.mp (gv_nil.mp z)))
    generalize minL (gv cs (mkS "outside" 1 gate)) = t at t1 ⊢
    have : t = A ∨ t = B := by
      rcases eg with h | h
      · rw [h] at t1; simpa using t1
      · rw [h] at t1; have : t = B ∨ t = A := by simpa using t1
        exact this.symm
    omega
  · unfold Pk
    rw [if_pos (.inl (show (mkS "outside" 1 gate).1 ≠ "house" from oh))]
theorem gd_hall {n dn : Nat} {cs : List Int} {B : Int} {hall : List Nat} (a1 : cs.getD (dn + 1) 0 = B) (hB : 1 ≤ B) (hin : dn + 1 ∈ hall) (hl : hall.length ≤ 3) (hlt : ∀ g ∈ hall, g < n) : Gd n cs "house" 1 hall B ((hall.idxOf (dn + 1) : Nat) : Int) := by
  have hp' : (Str.ofString "house") ≠ Str.ofString "pen" := fun z => ph z.symm
  have gl : hall ≠ [] := List.ne_nil_of_mem hin
  have hix := List.idxOf_lt_length_of_mem hin
  have hget : hall[hall.idxOf (dn + 1)]? = some (dn + 1) := by rw [List.getElem?_eq_getElem hix, List.getElem_idxOf]
  have hgl : (mkS "house" 1 hall).2.2.length = hall.length := by unfold mkS; rw [List.length_map]
  refine ⟨by omega, by omega, hlt, by omega, ?_, ?_⟩
  · unfold mo ev
    rw [if_neg (fun z => gl (mk_nil.mp z)), if_neg (show ¬ (mkS "house" 1 hall).1 = "pen" from hp'), if_pos (show (mkS "house" 1 hall).1 = "house" from rfl)]
    refine (maxL_spec (ns := gv cs (mkS "house" 1 hall)) (fun z => gl (mk_nil.mp (gv_nil.mp z)))).2 B ?_
    rw [gv_mk]
    exact List.mem_map.mpr ⟨dn + 1, hin, a1⟩
  · unfold Pk
    rw [if_neg (show ¬ ((mkS "house" 1 hall).1 ≠ "house" ∨ B < 1) from fun z => z.elim (fun z => z rfl) (fun z => by omega)), Int.toNat_natCast]
    exact ⟨by omega, by rw [hgl]; omega, (Str.ofString "", dn + 1), by unfold mkS; rw [List.getElem?_map, hget] <;> rfl, by rw [a1]; exact Int.le_refl _⟩
theorem gd_end {n : Nat} {cs : List Int} {w : Str} {a : Int} (h1 : 1 ≤ a) (h2 : a ≤ 4) : Gd n cs w a [] 0 (-1) := by
  refine ⟨by omega, by simp, fun g hg => by simp at hg, by omega, ?_, ?_⟩
  · unfold mo
    rw [if_pos (mk_nil.mpr rfl)]; exact Int.le_refl _
  · unfold Pk
    rw [if_pos (.inr (by omega))]
theorem plant_of {dn : Nat} (hd : dn ≤ 30) {os : List Str} {A B E : Int} {gate hall : List Nat} {cs pn : List Int} {pts pts5 : List Pt} {w : Str} {ask : Nat} {l5 : Int} (osl : os.length = dn + 6) (os3 : ∀ w ∈ os, W3 w)
    (og0 : os[dn]? = some (Str.ofString "pen")) (og1 : os[dn + 1]? = some (Str.ofString "pen")) (og2 : os[dn + 2]? = some (Str.ofString "outside")) (og3 : os[dn + 3]? = some (Str.ofString "house")) (og4 : os[dn + 4]? = some (Str.ofString "pen")) (og5 : os[dn + 5]? = some w)
    (F : Fxx (dn + 6) dn os A B E ((hall.idxOf (dn + 1) : Nat) : Int) gate hall cs pn pts) (NP : NpOk (dn + 6) dn os cs pn pts 0) (PP : ∀ k, k < dn + 2 → os[k]? = some (Str.ofString "pen") → ∀ p : Pt, pts[k]? = some p → Gd (dn + 6) cs "pen" p.2 p.1 (cs.getD k 0) (-1))
    (A1 : 1 ≤ A) (B1 : A < B) (E1 : 1 ≤ E) (hgate : gate = [dn, dn + 1] ∨ gate = [dn + 1, dn]) (hin1 : dn + 1 ∈ hall) (hl3 : hall.length ≤ 3) (hlt : ∀ g ∈ hall, g < dn + 6) (ak1 : 1 ≤ ask) (ak2 : ask ≤ 6) (l51 : 1 ≤ l5) (l52 : l5 ≤ 4)
    (pl5 : pts5.length = dn + 6) (p55 : pts5[dn + 5]? = some ([], l5)) (p5r : ∀ k, k < dn + 5 → pts5[k]? = (pts.set (dn + 4) (List.replicate ask (dn + 4), (ask : Int)))[k]?) : Plant (dn + 6) os pts5 cs pn := by
  have e4 : pts.length = dn + 6 := F.lp
  refine ⟨osl, pl5, F.lc, F.ln, os3, F.bd, fun k v p hv hp => ?_⟩
  have hk : k < dn + 6 := by have := (List.getElem?_eq_some_iff.mp hv).1; omega
  have h6 : k < dn ∨ k = dn ∨ k = dn + 1 ∨ k = dn + 2 ∨ k = dn + 3 ∨ k = dn + 4 ∨ k = dn + 5 := by omega
  have low : k < dn + 4 → pts[k]? = some p := fun h => by
    have := p5r k (by omega)
    rw [List.getElem?_set_ne (by omega), hp] at this
    exact this.symm
  have pen : k < dn + 2 → v = Str.ofString "pen" → Gd (dn + 6) cs v p.2 p.1 (cs.getD k 0) (pn.getD k 0) := fun h1 h2 => by
    subst h2
    rw [F.pp k hk hv]
    exact PP k h1 hv p (low (by omega))
  rcases h6 with h | h | h | h | h | h | h
  · by_cases hvp : v = Str.ofString "pen"
    · exact pen (by omega) hvp
    · exact (NP k (Nat.zero_le _) h v p hv hvp (low (by omega))).1
  · subst h
    rw [og0] at hv
    exact pen (by omega) (Option.some.inj hv).symm
  · subst h
    rw [og1] at hv
    exact pen (by omega) (Option.some.inj hv).symm
  · subst h
    have := low (by omega)
    rw [F.g2] at this
    cases this
    rw [og2] at hv
    cases hv
    rw [F.a2, F.p2]
    exact gd_gate (by omega) F.a0 F.a1 A1 B1 hgate
  · subst h
    have := low (by omega)
    rw [F.g3] at this
    cases this
    rw [og3] at hv
    cases hv
    rw [F.a3, F.p3]
    exact gd_hall F.a1 (by omega) hin1 hl3 hlt
  · subst h
    have := p5r (dn + 4) (by omega)
    rw [List.getElem?_set_self (by omega), hp] at this
    cases this
    rw [og4] at hv
    cases hv
    rw [F.a4, F.pp (dn + 4) hk og4]
    exact gd_self (by omega) F.a4 E1 ak1 ak2
  · subst h
    rw [p55] at hp
    cases hp
    rw [og5] at hv
    cases hv
    rw [F.a5, F.p5]
    exact gd_end l51 l52
end L_k17

namespace L_k17
open PySem PySem.Spec L2 FR
theorem planted_ok {p0 p1 : Int} (P : Pl p0 p1) {dn : Nat} (hd : dn ≤ 30) {Q : O → Sl → Prop} (q : ∀ (p0 p1 : Int) (ows : List Str) (pts : List Pt) (cs pn : List Int) (b : List Std) (od : List Nat) (U V : List Int) (st : Nat), Pl p0 p1 → Plant (dn + 6) ows pts cs pn → Told (dn + 6) dn cs ows pts pn → Put (dn + 6) ows pts cs pn b od U V → st < dn + 6 → 1 ≤ U.getD st 0 → Q (.own (.lst ([.tup (b.map eS), .tup (U.map .int), .tup (V.map .int), .int (st : Int)] ++ (od.drop dn).map eI))) [pl p0 p1, some (.d (.int dn))]) : wpM m__law_planted [.own (.lst [.int p0, .int p1]), .d (.int dn)] Q := by
  unfold m__law_planted b__law_planted
  rw [wpM_fm]
  simp only [slots, List.replicate]
  have hi : i62 (dn : Int) = true := i62_nat (by omega)
  refine wp_cut (fun S => S = [pl p0 p1, some (.d (.int dn)), some (.own (.lst [.int 0, .int 0])), none, none, none, none, none, none, none, none, none, none, none, none]) ?_ fun S e => ?_
  · simp? only []
  subst e
  refine wp_cut (fun S => S = [pl p0 p1, some (.d (.int dn)), some (.own (.lst [.int 0, .int 0])), some (.own (.lst (([] : List Str).map .str))), none, none, none, none, none, none, none, none, none, none, none]) ?_ fun S e => ?_
  · simp? only []
  subst e
  refine wp_cut (fun S => ∃ (p0 p1 a b : Int) (ows : List Str) (x4 x5 : Option O), Pl p0 p1 ∧ ows.length = dn ∧ (∀ w ∈ ows, W3 w) ∧ S = [pl p0 p1, some (.d (.int dn)), some (.own (.lst [.int a, .int b])), some (.own (.lst (ows.map .str))), x4, x5, none, none, none, none, none, none, none, none, none]) ?_ fun S h => ?_
  · simp? only [hi, Int.toNat_natCast]
    refine wp_forR (J := fun i S => ∃ (p0 p1 a b : Int) (ows : List Str) (x4 x5 : Option O), Pl p0 p1 ∧ ows.length = i ∧ (∀ w ∈ ows, W3 w) ∧ S = [pl p0 p1, some (.d (.int dn)), some (.own (.lst [.int a, .int b])), some (.own (.lst (ows.map .str))), x4, x5, none, none, none, none, none, none, none, none, none]) ⟨p0, p1, 0, 0, [], _, _, P, rfl, fun w h => by simp at h, rfl⟩ (fun i hin S ⟨p0, p1, a, b, ows, x4, x5, P, ol, ow, e⟩ => ?_) (fun S ⟨p0, p1, a, b, ows, x4, x5, P, ol, ow, e⟩ => ⟨rfl, p0, p1, a, b, ows, x4, x5, P, ol, ow, e⟩)
    subst e
    have hol : ows.length < lim := by rw [lim_eq]; omega
    have fin : ∀ (p0 p1 a b : Int) (w : Str), Pl p0 p1 → W3 w → ∃ (p0' p1' a' b' : Int) (ows' : List Str) (x4 x5 : Option O), Pl p0' p1' ∧ ows'.length = i + 1 ∧ (∀ w ∈ ows', W3 w) ∧ [pl p0 p1, some (O.d (.int dn)), some (.own (.lst [.int a, .int b])), some (.own (.lst (ows.map .str ++ [D.str w]))), some (.d (.int i)), some (.d (.str w)), none, none, none, none, none, none, none, none, none] = [pl p0' p1', some (.d (.int dn)), some (.own (.lst [.int a', .int b'])), some (.own (.lst (ows'.map .str))), x4, x5, none, none, none, none, none, none, none, none, none] := fun p0 p1 a b w P hw => ⟨p0, p1, a, b, ows ++ [w], _, _, P, by simp [ol], fun x hx => by
      rcases List.mem_append.mp hx with z | z
      · exact ow x z
      · have : x = w := by simpa using z
        subst this; exact hw, by rw [List.map_append] <;> rfl⟩
    simp only [↓wp_gN, uB_eq, List.set_cons_succ, List.set_cons_zero]
    refine wp_cut (fun S => ∃ (p0 p1 : Int) (w : Str), Pl p0 p1 ∧ W3 w ∧ S = [pl p0 p1, some (.d (.int dn)), some (.own (.lst [.int a, .int b])), some (.own (.lst (ows.map .str))), some (.d (.int i)), some (.d (.str w)), none, none, none, none, none, none, none, none, none]) ?_ fun S h => ?_
    · simp? only []
      refine take_ok P (by omega) (by omega) fun p0 p1 r P r0 r1 => ?_
      obtain ⟨w, hw, hw2⟩ := str_at (l := ["pen", "outside", "house", "pen"]) r0 r1
      simp only [List.map_cons, List.map_nil] at hw2
      simp? only [hw2]
      refine ⟨p0, p1, w, P, ?_, rfl⟩
      simp only [List.mem_cons, List.not_mem_nil, or_false] at hw
      unfold W3
      rcases hw with h | h | h | h
      · exact .inl h
      · exact .inr (.inl h)
      · exact .inr (.inr h)
      · exact .inl h
    clear P
    obtain ⟨p0, p1, w, P, hw, rfl⟩ := h
    by_cases hh : w = "house"
    · simp? only [hh, hol, (show ¬ (Str.ofString "house") = Str.ofString "pen" from fun z => ph z.symm), decide_true, Bool.not_false]
      exact ⟨fun _ => fin _ _ _ _ _ P (.inl rfl), fun _ => fin _ _ _ _ _ P (.inr (.inr rfl))⟩
    · simp? only [hh, hol, decide_false]
      exact ⟨fun _ => ⟨fun _ => fin _ _ _ _ _ P (.inl rfl), fun _ => fin _ _ _ _ _ P hw⟩, fun _ => fin _ _ _ _ _ P hw⟩
  clear P
  obtain ⟨p0, p1, a, b, ows, x4, x5, P, ol, ow, rfl⟩ := h
  refine wp_cut (fun S => ∃ (p0 p1 : Int) (w : Str), Pl p0 p1 ∧ W3 w ∧ S = [pl p0 p1, some (.d (.int dn)), some (.own (.lst [.int a, .int b])), some (.own (.lst (ows.map .str))), x4, x5, some (.d (.str w)), none, none, none, none, none, none, none, none]) ?_ fun S h => ?_
  · simp? only []
    refine take_ok P (by omega) (by omega) fun p0 p1 r P r0 r1 => ?_
    obtain ⟨w, hw, hw2⟩ := str_at (l := ["pen", "outside", "house"]) r0 r1
    simp only [List.map_cons, List.map_nil] at hw2
    simp? only [hw2]
    refine ⟨p0, p1, w, P, ?_, rfl⟩
    simp only [List.mem_cons, List.not_mem_nil, or_false] at hw
    exact hw
  clear P
  obtain ⟨p0, p1, w, P, hw, rfl⟩ := h
  refine wp_cut (fun S => S = [pl p0 p1, some (.d (.int dn)), some (.own (.lst [.int a, .int b])), some (.own (.lst ((ows ++ [Str.ofString "pen", Str.ofString "pen", Str.ofString "outside", Str.ofString "house", Str.ofString "pen", w]).map .str))), x4, x5, some (.d (.str w)), none, none, none, none, none, none, none, none]) ?_ fun S e => ?_
  · have hc : ows.length + 6 ≤ lim := by rw [lim_eq]; omega
    simp? only [hc]
    rw [List.map_append] <;> rfl
  subst e
  generalize hows : ows ++ [Str.ofString "pen", Str.ofString "pen", Str.ofString "outside", Str.ofString "house", Str.ofString "pen", w] = os
  have osl : os.length = dn + 6 := by rw [← hows]; simp [ol]
  have os3 : ∀ w ∈ os, W3 w := fun x hx => by
    rw [← hows] at hx
    rcases List.mem_append.mp hx with z | z
    · exact ow x z
    · simp only [List.mem_cons, List.not_mem_nil, or_false] at z
      rcases z with rfl | rfl | rfl | rfl | rfl | rfl
      · exact .inl rfl
      · exact .inl rfl
      · exact .inr (.inl rfl)
      · exact .inr (.inr rfl)
      · exact .inl rfl
      · exact hw
  have osg : os[dn]? = some (Str.ofString "pen") ∧ os[dn + 1]? = some (Str.ofString "pen") ∧ os[dn + 2]? = some (Str.ofString "outside") ∧ os[dn + 3]? = some (Str.ofString "house") ∧ os[dn + 4]? = some (Str.ofString "pen") ∧ os[dn + 5]? = some w := by
    rw [← hows]
    refine ⟨?_, ?_, ?_, ?_, ?_, ?_⟩ <;> (rw [List.getElem?_append_right (by omega), ol]; simp)
  obtain ⟨og0, og1, og2, og3, og4, og5⟩ := osg
  clear hows ow ol
  refine wp_cut (fun S => ∃ (p0 p1 hb : Int), Pl p0 p1 ∧ S = [pl p0 p1, some (.d (.int dn)), some (.own (.lst [.int a, .int b])), some (.own (.lst (os.map .str))), x4, x5, some (.d (.str w)), some (.d (.int hb)), none, none, none, none, none, none, none]) ?_ fun S h => ?_
  · simp? only []
    refine take_ok P (by omega) (by omega) fun p0 p1 r P r0 r1 => ?_
    simp? only []
    exact ⟨p0, p1, r, P, rfl⟩
  clear P
  obtain ⟨p0, p1, hb, P, rfl⟩ := h
  -- the first counts
  refine wp_cut (fun S => ∃ (p0 p1 : Int) (cs : List Int) (x5 : Option O), Pl p0 p1 ∧ cs.length = dn + 6 ∧ (∀ j, 0 ≤ cs.getD j 0 ∧ cs.getD j 0 ≤ 10 ^ 49) ∧ S = [pl p0 p1, some (.d (.int dn)), some (.own (.lst [.int a, .int b])), some (.d (.lst (os.map .str))), x4, x5, some (.d (.str w)), some (.d (.int hb)), some (.own (.lst (cs.map .int))), none, none, none, none, none, none]) ?_ fun S h => ?_
  · simp? only []
    refine wp_comp (enc := D.str) (as := os) (J := fun pre acc S => ∃ (p0 p1 : Int) (cs : List Int), Pl p0 p1 ∧ cs.length = pre.length ∧ (∀ y ∈ cs, 0 ≤ y ∧ y ≤ 10 ^ 49) ∧ acc = cs.map .int ∧ S = [pl p0 p1, some (.d (.int dn)), some (.own (.lst [.int a, .int b])), some (.d (.lst (os.map .str))), x4, none, some (.d (.str w)), some (.d (.int hb)), none, none, none, none, none, none, none]) (by rw [lim_eq]; omega) ⟨p0, p1, [], P, rfl, fun y h => by simp at h, rfl, rfl⟩ (fun pre v post e acc S ⟨p0, p1, cs, P, lc, bd, ea, eS⟩ => ?_) (fun acc S ⟨p0, p1, cs, P, lc, bd, ea, eS⟩ => ?_)
    · subst ea eS
      simp? only []
      refine count_ok P fun p0 p1 c P c0 c1 => ?_
      have k1 : mulOk c 1 = true := mulOk_60 (by omega) (by omega)
      have k0 : mulOk c 0 = true := mulOk_60 (by omega) (by omega)
      have add : ∀ y : Int, 0 ≤ y ∧ y ≤ 10 ^ 49 → ∃ (p0' p1' : Int) (cs' : List Int), Pl p0' p1' ∧ cs'.length = (pre ++ [v]).length ∧ (∀ y ∈ cs', 0 ≤ y ∧ y ≤ 10 ^ 49) ∧ cs.map D.int ++ [.int y] = cs'.map .int ∧ [pl p0 p1, some (O.d (.int dn)), some (.own (.lst [.int a, .int b])), some (.d (.lst (os.map .str))), x4, none, some (.d (.str w)), some (.d (.int hb)), none, none, none, none, none, none, none] = [pl p0' p1', some (.d (.int dn)), some (.own (.lst [.int a, .int b])), some (.d (.lst (os.map .str))), x4, none, some (.d (.str w)), some (.d (.int hb)), none, none, none, none, none, none, none] := fun y hy => ⟨p0, p1, cs ++ [y], P, by simp [lc], fun z hz => by
        rcases List.mem_append.mp hz with h | h
        · exact bd z h
        · have : z = y := by simpa using h
          subst this; exact hy, by rw [List.map_append] <;> rfl, rfl⟩
      by_cases hv : v = Str.ofString "pen"
      · simp? only [hv, decide_true, k1, Int.mul_one]
        rw [← hv]
        exact add c ⟨c0, c1⟩
      · simp? only [hv, decide_false, k0, Int.mul_zero]
        exact add 0 ⟨by omega, by omega⟩
    · subst ea eS
      simp? only []
      refine ⟨p0, p1, cs, _, P, by rw [lc]; exact osl, fun j => ?_, rfl⟩
      rcases Nat.lt_or_ge j cs.length with z | z
      · rw [getD_of (List.getElem?_eq_getElem z)]; exact bd _ (List.getElem_mem _)
      · rw [List.getD_eq_getElem?_getD, List.getElem?_eq_none z]; exact ⟨Int.le_refl _, by simp⟩
  clear P
  obtain ⟨p0, p1, cs, y5, P, lc, bd, rfl⟩ := h
  have setC : ∀ (l : List Int) (i : Nat) (x : Int), (l.map D.int).set i (.int x) = (l.set i x).map .int := fun l i x => by rw [List.map_set]
  have d1 : (dn : Int) + 1 = ((dn + 1 : Nat) : Int) := by omega
  have d2 : (dn : Int) + 2 = ((dn + 2 : Nat) : Int) := by omega
  have d3 : (dn : Int) + 3 = ((dn + 3 : Nat) : Int) := by omega
  have d4 : (dn : Int) + 4 = ((dn + 4 : Nat) : Int) := by omega
  have d5 : (dn : Int) + 5 = ((dn + 5 : Nat) : Int) := by omega
  have bd0 := bd dn
  refine wp_cut (fun S => ∃ (A : Int) (cs : List Int), 1 ≤ A ∧ A ≤ 10 ^ 49 ∧ cs.length = dn + 6 ∧ (∀ j, 0 ≤ cs.getD j 0 ∧ cs.getD j 0 ≤ 10 ^ 50) ∧ cs.getD dn 0 = A ∧ S = [pl p0 p1, some (.d (.int dn)), some (.own (.lst [.int a, .int b])), some (.d (.lst (os.map .str))), x4, y5, some (.d (.str w)), some (.d (.int hb)), some (.own (.lst (cs.map .int))), none, none, none, none, none, none]) ?_ fun S h => ?_
  · have g := get_i (u := cs) (i := dn) (by omega)
    have hx : ixN cs.length (dn : Int) = some dn := ixN_n (by omega)
    simp? only [g, hx, setC]
    generalize hA : (if 1 < cs.getD dn 0 then cs.getD dn 0 else 1) = A
    have hA1 : 1 ≤ A ∧ A ≤ 10 ^ 49 := by subst hA; split <;> omega
    exact ⟨A, cs.set dn A, hA1.1, hA1.2, by rw [List.length_set]; exact lc, getD_bd (fun j => ⟨(bd j).1, by have := (bd j).2; omega⟩) ⟨by omega, by omega⟩, getD_eq (by omega), rfl⟩
  obtain ⟨A, cs, A1, A2, lc, bd, a0, rfl⟩ := h
  refine wp_cut (fun S => ∃ (p0 p1 B : Int) (cs : List Int), Pl p0 p1 ∧ A < B ∧ B ≤ 10 ^ 50 ∧ cs.length = dn + 6 ∧ (∀ j, 0 ≤ cs.getD j 0 ∧ cs.getD j 0 ≤ 10 ^ 50) ∧ cs.getD dn 0 = A ∧ cs.getD (dn + 1) 0 = B ∧ S = [pl p0 p1, some (.d (.int dn)), some (.own (.lst [.int a, .int b])), some (.d (.lst (os.map .str))), x4, y5, some (.d (.str w)), some (.d (.int hb)), some (.own (.lst (cs.map .int))), none, none, none, none, none, none]) ?_ fun S h => ?_
  · have g := get_i (u := cs) (i := dn) (by omega)
    rw [a0] at g
    have hx : ixN cs.length ((dn + 1 : Nat) : Int) = some (dn + 1) := ixN_n (by omega)
    simp? only [g]
    refine take_ok P (by omega) (by omega) fun p0 p1 r P r0 r1 => ?_
    simp? only [d1, hx, setC]
    exact ⟨p0, p1, A + 1 + r, cs.set (dn + 1) (A + 1 + r), P, by omega, by omega, by rw [List.length_set]; exact lc, getD_bd bd ⟨by omega, by omega⟩, by rw [getD_ne (by omega)]; exact a0, getD_eq (by omega), rfl⟩
  clear P
  obtain ⟨p0, p1, B, cs, P, B1, B2, lc, bd, a0, a1, rfl⟩ := h
  refine wp_cut (fun S => ∃ (p0 p1 E : Int) (cs : List Int), Pl p0 p1 ∧ 1 ≤ E ∧ cs.length = dn + 6 ∧ (∀ j, 0 ≤ cs.getD j 0 ∧ cs.getD j 0 ≤ 10 ^ 50) ∧ cs.getD dn 0 = A ∧ cs.getD (dn + 1) 0 = B ∧ cs.getD (dn + 4) 0 = E ∧ S = [pl p0 p1, some (.d (.int dn)), some (.own (.lst [.int a, .int b])), some (.d (.lst (os.map .str))), x4, y5, some (.d (.str w)), some (.d (.int hb)), some (.own (.lst (cs.map .int))), none, none, none, none, none, none]) ?_ fun S h => ?_
  · have hx : ixN cs.length ((dn + 4 : Nat) : Int) = some (dn + 4) := ixN_n (by omega)
    simp? only []
    refine take_ok P (by omega) (by omega) fun p0 p1 r P r0 r1 => ?_
    simp? only [d4, hx, setC]
    exact ⟨p0, p1, 1 + r, cs.set (dn + 4) (1 + r), P, by omega, by rw [List.length_set]; exact lc, getD_bd bd ⟨by omega, by omega⟩, by rw [getD_ne (by omega)]; exact a0, by rw [getD_ne (by omega)]; exact a1, getD_eq (by omega), rfl⟩
  clear P
  obtain ⟨p0, p1, E, cs, P, E1, lc, bd, a0, a1, a4, rfl⟩ := h
  refine wp_cut (fun S => ∃ (cs : List Int), cs.length = dn + 6 ∧ (∀ j, 0 ≤ cs.getD j 0 ∧ cs.getD j 0 ≤ 10 ^ 50) ∧ cs.getD dn 0 = A ∧ cs.getD (dn + 1) 0 = B ∧ cs.getD (dn + 4) 0 = E ∧ cs.getD (dn + 5) 0 = 0 ∧ S = [pl p0 p1, some (.d (.int dn)), some (.own (.lst [.int a, .int b])), some (.d (.lst (os.map .str))), x4, y5, some (.d (.str w)), some (.d (.int hb)), some (.own (.lst (cs.map .int))), none, none, none, none, none, none]) ?_ fun S h => ?_
  · have hx : ixN cs.length ((dn + 5 : Nat) : Int) = some (dn + 5) := ixN_n (by omega)
    simp? only [d5, hx, setC]
    exact ⟨cs.set (dn + 5) 0, by rw [List.length_set]; exact lc, getD_bd bd ⟨by omega, by simp⟩, by rw [getD_ne (by omega)]; exact a0, by rw [getD_ne (by omega)]; exact a1, by rw [getD_ne (by omega)]; exact a4, getD_eq (by omega), rfl⟩
  obtain ⟨cs, lc, bd, a0, a1, a4, a5, rfl⟩ := h
  refine wp_cut (fun S => S = [pl p0 p1, some (.d (.int dn)), some (.own (.lst [.int a, .int b])), some (.d (.lst (os.map .str))), x4, y5, some (.d (.str w)), some (.d (.int hb)), some (.own (.lst (cs.map .int))), some (.own (.lst ((List.replicate (dn + 6) (-1 : Int)).map .int))), none, none, none, none, none]) ?_ fun S e => ?_
  · simp? only [osl, aMul_rep1 (show dn + 6 ≤ 1000000 by omega)]
    rw [List.map_replicate (a := (-1 : Int))]
  subst e
  refine wp_cut (fun S => S = [pl p0 p1, some (.d (.int dn)), some (.own (.lst [.int a, .int b])), some (.d (.lst (os.map .str))), x4, y5, some (.d (.str w)), some (.d (.int hb)), some (.own (.lst (cs.map .int))), some (.own (.lst ((List.replicate (dn + 6) (-1 : Int)).map .int))), some (.own (.lst ((List.replicate (dn + 6) (([], 1) : Pt)).map ePt))), none, none, none, none]) ?_ fun S e => ?_
  · simp? only [osl, aMul_rep1 (show dn + 6 ≤ 1000000 by omega)]
    rw [List.map_replicate (a := (([], 1) : Pt))] <;> rfl
  subst e
  refine wp_cut (fun S => ∃ (p0 p1 : Int) (gate : List Nat), Pl p0 p1 ∧ (gate = [dn, dn + 1] ∨ gate = [dn + 1, dn]) ∧ S = [pl p0 p1, some (.d (.int dn)), some (.own (.lst [.int a, .int b])), some (.d (.lst (os.map .str))), x4, y5, some (.d (.str w)), some (.d (.int hb)), some (.own (.lst (cs.map .int))), some (.own (.lst ((List.replicate (dn + 6) (-1 : Int)).map .int))), some (.own (.lst ((List.replicate (dn + 6) (([], 1) : Pt)).map ePt))), some (.d (.lst (gate.map eI))), none, none, none]) ?_ fun S h => ?_
  · simp? only [d1]
    refine take_ok P (by omega) (by omega) fun p0 p1 r P r0 r1 => ?_
    rcases (show r = 0 ∨ r = 1 by omega) with rfl | rfl
    · simp? only []
      exact ⟨p0, p1, [dn, dn + 1], P, .inl rfl, rfl⟩
    · simp? only []
      exact ⟨p0, p1, [dn + 1, dn], P, .inr rfl, rfl⟩
  clear P
  obtain ⟨p0, p1, gate, P, hgate, rfl⟩ := h
  refine wp_cut (fun S => ∃ (p0 p1 : Int) (hall : List Nat), Pl p0 p1 ∧ (hall = [dn, dn + 1, dn + 5] ∨ hall = [dn + 5, dn + 1, dn] ∨ hall = [dn + 1, dn]) ∧ S = [pl p0 p1, some (.d (.int dn)), some (.own (.lst [.int a, .int b])), some (.d (.lst (os.map .str))), x4, y5, some (.d (.str w)), some (.d (.int hb)), some (.own (.lst (cs.map .int))), some (.own (.lst ((List.replicate (dn + 6) (-1 : Int)).map .int))), some (.own (.lst ((List.replicate (dn + 6) (([], 1) : Pt)).map ePt))), some (.d (.lst (gate.map eI))), some (.d (.lst (hall.map eI))), none, none]) ?_ fun S h => ?_
  · simp? only [d1, d5]
    refine take_ok P (by omega) (by omega) fun p0 p1 r P r0 r1 => ?_
    rcases (show r = 0 ∨ r = 1 ∨ r = 2 by omega) with rfl | rfl | rfl
    · simp? only []
      exact ⟨p0, p1, [dn, dn + 1, dn + 5], P, .inl rfl, rfl⟩
    · simp? only []
      exact ⟨p0, p1, [dn + 5, dn + 1, dn], P, .inr (.inl rfl), rfl⟩
    · simp? only []
      exact ⟨p0, p1, [dn + 1, dn], P, .inr (.inr rfl), rfl⟩
  clear P
  obtain ⟨p0, p1, hall, P, hhall, rfl⟩ := h
  have hin : dn + 1 ∈ hall ∧ dn ∈ hall ∧ hall.length ≤ 3 ∧ ∀ g ∈ hall, g < dn + 6 := by
    rcases hhall with rfl | rfl | rfl
    · refine ⟨by simp, by simp, by simp, fun g hg => ?_⟩
      simp only [List.mem_cons, List.not_mem_nil, or_false] at hg; omega
    · refine ⟨by simp, by simp, by simp, fun g hg => ?_⟩
      simp only [List.mem_cons, List.not_mem_nil, or_false] at hg; omega
    · refine ⟨by simp, by simp, by simp, fun g hg => ?_⟩
      simp only [List.mem_cons, List.not_mem_nil, or_false] at hg; omega
  obtain ⟨hin1, hin0, hl3, hlt⟩ := hin
  have setP : ∀ (l : List Pt) (i : Nat) (p : Pt), (l.map ePt).set i (.lst [.lst (p.1.map eI), .int p.2]) = (l.set i p).map ePt := fun l i p => by rw [List.map_set] <;> rfl
  have hxn : ∀ i : Nat, i < dn + 6 → ixN (dn + 6) (i : Int) = some i := fun i h => ixN_n h
  generalize hpt0 : List.replicate (dn + 6) (([], 1) : Pt) = pt0
  have pt0l : pt0.length = dn + 6 := by rw [← hpt0, List.length_replicate]
  have pt0g : ∀ i, i < dn + 6 → pt0[i]? = some ([], 1) := fun i h => by rw [← hpt0, List.getElem?_replicate, if_pos h]
  generalize hpn0 : List.replicate (dn + 6) (-1 : Int) = pn0
  have pn0l : pn0.length = dn + 6 := by rw [← hpn0, List.length_replicate]
  have pn0g : ∀ i, i < dn + 6 → pn0.getD i 0 = -1 := fun i h => by rw [← hpn0, List.getD_eq_getElem?_getD, List.getElem?_replicate, if_pos h] <;> rfl
  refine wp_cut (fun S => S = [pl p0 p1, some (.d (.int dn)), some (.own (.lst [.int a, .int b])), some (.d (.lst (os.map .str))), x4, y5, some (.d (.str w)), some (.d (.int hb)), some (.own (.lst (cs.map .int))), some (.own (.lst (pn0.map .int))), some (.own (.lst ((pt0.set (dn + 2) (gate, 1)).map ePt))), some (.d (.lst (gate.map eI))), some (.d (.lst (hall.map eI))), none, none]) ?_ fun S e => ?_
  · simp? only [d2, pt0l, hxn (dn + 2) (by omega), setP pt0 (dn + 2) (gate, 1)]
  subst e
  refine wp_cut (fun S => S = [pl p0 p1, some (.d (.int dn)), some (.own (.lst [.int a, .int b])), some (.d (.lst (os.map .str))), x4, y5, some (.d (.str w)), some (.d (.int hb)), some (.own (.lst (cs.map .int))), some (.own (.lst (pn0.map .int))), some (.own (.lst (((pt0.set (dn + 2) (gate, 1)).set (dn + 3) (hall, 1)).map ePt))), some (.d (.lst (gate.map eI))), some (.d (.lst (hall.map eI))), none, none]) ?_ fun S e => ?_
  · simp? only [d3, List.length_set, pt0l, hxn (dn + 3) (by omega), setP _ (dn + 3) (hall, 1)]
  subst e
  refine wp_cut (fun S => S = [pl p0 p1, some (.d (.int dn)), some (.own (.lst [.int a, .int b])), some (.d (.lst (os.map .str))), x4, y5, some (.d (.str w)), some (.d (.int hb)), some (.own (.lst ((cs.set (dn + 2) A).map .int))), some (.own (.lst (pn0.map .int))), some (.own (.lst (((pt0.set (dn + 2) (gate, 1)).set (dn + 3) (hall, 1)).map ePt))), some (.d (.lst (gate.map eI))), some (.d (.lst (hall.map eI))), none, none]) ?_ fun S e => ?_
  · have g := get_i (u := cs) (i := dn) (by omega)
    rw [a0] at g
    simp? only [d2, g, lc, hxn (dn + 2) (by omega), setC]
  subst e
  refine wp_cut (fun S => S = [pl p0 p1, some (.d (.int dn)), some (.own (.lst [.int a, .int b])), some (.d (.lst (os.map .str))), x4, y5, some (.d (.str w)), some (.d (.int hb)), some (.own (.lst (((cs.set (dn + 2) A).set (dn + 3) B).map .int))), some (.own (.lst (pn0.map .int))), some (.own (.lst (((pt0.set (dn + 2) (gate, 1)).set (dn + 3) (hall, 1)).map ePt))), some (.d (.lst (gate.map eI))), some (.d (.lst (hall.map eI))), none, none]) ?_ fun S e => ?_
  · have g := get_i (u := cs.set (dn + 2) A) (i := dn + 1) (by rw [List.length_set]; omega)
    rw [getD_ne (by omega), a1] at g
    simp? only [d1, d3, g, List.length_set, lc, hxn (dn + 3) (by omega), setC]
  subst e
  refine wp_cut (fun S => S = [pl p0 p1, some (.d (.int dn)), some (.own (.lst [.int a, .int b])), some (.d (.lst (os.map .str))), x4, y5, some (.d (.str w)), some (.d (.int hb)), some (.own (.lst (((cs.set (dn + 2) A).set (dn + 3) B).map .int))), some (.own (.lst ((pn0.set (dn + 3) ((hall.idxOf (dn + 1) : Nat) : Int)).map .int))), some (.own (.lst (((pt0.set (dn + 2) (gate, 1)).set (dn + 3) (hall, 1)).map ePt))), some (.d (.lst (gate.map eI))), some (.d (.lst (hall.map eI))), none, none]) ?_ fun S e => ?_
  · simp? only [d1, d3, oIdx_nat hin1, pn0l, hxn (dn + 3) (by omega), setC]
  subst e
  have bdA : ∀ j, 0 ≤ ((cs.set (dn + 2) A).set (dn + 3) B).getD j 0 ∧ ((cs.set (dn + 2) A).set (dn + 3) B).getD j 0 ≤ 10 ^ 50 := getD_bd (getD_bd bd ⟨by omega, by omega⟩) ⟨by omega, by omega⟩
  have F0 : Fxx (dn + 6) dn os A B E ((hall.idxOf (dn + 1) : Nat) : Int) gate hall ((cs.set (dn + 2) A).set (dn + 3) B) (pn0.set (dn + 3) ((hall.idxOf (dn + 1) : Nat) : Int)) ((pt0.set (dn + 2) (gate, 1)).set (dn + 3) (hall, 1)) := by
    refine ⟨by simp [lc], by simp [pn0l], by simp [pt0l], bdA, ?_, ?_, ?_, ?_, ?_, ?_, fun k hk ho => ?_, ?_, ?_, ?_, ?_, ?_, ?_⟩
    · rw [getD_ne (by omega), getD_ne (by omega)]; exact a0
    · rw [getD_ne (by omega), getD_ne (by omega)]; exact a1
    · rw [getD_ne (by omega), getD_eq (by omega)]
    · rw [getD_eq (by rw [List.length_set]; omega)]
    · rw [getD_ne (by omega), getD_ne (by omega)]; exact a4
    · rw [getD_ne (by omega), getD_ne (by omega)]; exact a5
    · have : dn + 3 ≠ k := fun z => by subst z; rw [og3] at ho; cases ho
      rw [getD_ne this]; exact pn0g k hk
    · rw [getD_ne (by omega)]; exact pn0g _ (by omega)
    · rw [getD_eq (by omega)]
    · rw [getD_ne (by omega)]; exact pn0g _ (by omega)
    · rw [List.getElem?_set_ne (by omega), List.getElem?_set_self (by omega)]
    · rw [List.getElem?_set_self (by rw [List.length_set]; omega)]
    · rw [List.getElem?_set_ne (by omega), List.getElem?_set_ne (by omega)]; exact pt0g _ (by omega)
  generalize (cs.set (dn + 2) A).set (dn + 3) B = cs1 at F0 ⊢
  generalize pn0.set (dn + 3) ((hall.idxOf (dn + 1) : Nat) : Int) = pn1 at F0 ⊢
  generalize (pt0.set (dn + 2) (gate, 1)).set (dn + 3) (hall, 1) = pt1 at F0 ⊢
  clear bdA bd lc a0 a1 a4 a5 pn0l pn0g pt0l pt0g hpn0 hpt0
  -- the picks, from the last one on
  refine wp_cut (fun S => ∃ (p0 p1 : Int) (cs pn : List Int) (pts : List Pt) (x4 x13 : Option O), Pl p0 p1 ∧ Fxx (dn + 6) dn os A B E ((hall.idxOf (dn + 1) : Nat) : Int) gate hall cs pn pts ∧ NpOk (dn + 6) dn os cs pn pts 0 ∧ S = [pl p0 p1, some (.d (.int dn)), some (.own (.lst [.int a, .int b])), some (.d (.lst (os.map .str))), x4, y5, some (.d (.str w)), some (.d (.int hb)), some (.own (.lst (cs.map .int))), some (.own (.lst (pn.map .int))), some (.own (.lst (pts.map ePt))), some (.d (.lst (gate.map eI))), some (.d (.lst (hall.map eI))), x13, none]) ?_ fun S h => ?_
  · simp? only [rg3_down (show dn ≤ 100000 by omega)]
    refine wp_forE (enc := fun i : Nat => D.int ((dn : Int) - 1 - (i : Nat))) (as := List.range dn) (J := fun pre S => ∃ (p0 p1 : Int) (cs pn : List Int) (pts : List Pt) (x4 x13 : Option O), Pl p0 p1 ∧ Fxx (dn + 6) dn os A B E ((hall.idxOf (dn + 1) : Nat) : Int) gate hall cs pn pts ∧ NpOk (dn + 6) dn os cs pn pts (dn - pre.length) ∧ S = [pl p0 p1, some (.d (.int dn)), some (.own (.lst [.int a, .int b])), some (.d (.lst (os.map .str))), x4, y5, some (.d (.str w)), some (.d (.int hb)), some (.own (.lst (cs.map .int))), some (.own (.lst (pn.map .int))), some (.own (.lst (pts.map ePt))), some (.d (.lst (gate.map eI))), some (.d (.lst (hall.map eI))), x13, none]) ⟨p0, p1, cs1, pn1, pt1, _, _, P, F0, fun k h1 h2 => by simp at h1; omega, rfl⟩ (fun pre i post ep S ⟨p0, p1, cs, pn, pts, x4, x13, P, F, NP, e⟩ => ?_) (fun S ⟨p0, p1, cs, pn, pts, x4, x13, P, F, NP, e⟩ => ⟨rfl, p0, p1, cs, pn, pts, x4, x13, P, F, by rw [List.length_range, Nat.sub_self] at NP; exact NP, e⟩)
    subst e
    have hil : pre.length < dn := by
      have := congrArg List.length ep
      simp at this
      omega
    have hip : i = pre.length := by
      have h1 : (List.range dn)[pre.length]? = some i := by rw [ep, List.getElem?_append_right (Nat.le_refl _), Nat.sub_self] <;> rfl
      rw [List.getElem?_range hil] at h1
      cases h1; rfl
    obtain ⟨k, hk⟩ : ∃ k : Nat, k = dn - 1 - pre.length := ⟨_, rfl⟩
    have hki : (dn : Int) - 1 - (i : Int) = (k : Int) := by omega
    have hkd : k < dn := by omega
    have hkn : dn - pre.length = k + 1 := by omega
    have hkl : dn - (pre ++ [i]).length = k := by rw [List.length_append, List.length_singleton]; omega
    rw [hkn] at NP
    rw [hkl]
    obtain ⟨v, hv⟩ : ∃ v, os[k]? = some v := ⟨_, List.getElem?_eq_getElem (by omega)⟩
    have gv' := get_str hv
    have vo := os3 v (List.mem_of_getElem? hv)
    simp? only [hki, gv']
    refine ⟨fun hvp => ?_, fun hvp => ⟨p0, p1, cs, pn, pts, _, _, P, F, fun j h1 h2 w' p h3 h4 h5 => ?_, rfl⟩⟩
    · refine pick_ok P (by omega) osl F.lc (by omega) hv (vo.resolve_left hvp) F.bd fun p0 p1 gs c m P c50 G far => ?_
      have lx : ixN pts.length (k : Int) = some k := ixN_n (by rw [F.lp]; omega)
      have cx : ixN cs.length (k : Int) = some k := ixN_n (by rw [F.lc]; omega)
      have px : ixN pn.length (k : Int) = some k := ixN_n (by rw [F.ln]; omega)
      simp? only [lx, cx, px, setC, setP pts k (gs, 1)]
      exact ⟨p0, p1, cs.set k c, pn.set k m, pts.set k (gs, 1), _, _, P, F.set hkd hv hvp ⟨G.nn, c50⟩ (gs, 1), NP.step F.lc F.ln F.lp (by omega) hv hvp G far, rfl⟩
    · by_cases hjk : j = k
      · subst hjk
        rw [hv] at h3
        cases h3
        exact absurd hvp h4
      · exact NP j (by omega) h2 w' p h3 h4 h5
  clear P
  obtain ⟨p0, p1, cs, pn, pts, x4, x13, P, F, NP, rfl⟩ := h
  -- the pens
  refine wp_cut (fun S => ∃ (p0 p1 : Int) (pts : List Pt) (x4 : Option O), Pl p0 p1 ∧ Fxx (dn + 6) dn os A B E ((hall.idxOf (dn + 1) : Nat) : Int) gate hall cs pn pts ∧ NpOk (dn + 6) dn os cs pn pts 0 ∧ (∀ k, k < dn + 2 → os[k]? = some (Str.ofString "pen") → ∀ p : Pt, pts[k]? = some p → Gd (dn + 6) cs "pen" p.2 p.1 (cs.getD k 0) (-1)) ∧ S = [pl p0 p1, some (.d (.int dn)), some (.own (.lst [.int a, .int b])), some (.d (.lst (os.map .str))), x4, y5, some (.d (.str w)), some (.d (.int hb)), some (.own (.lst (cs.map .int))), some (.own (.lst (pn.map .int))), some (.own (.lst (pts.map ePt))), some (.d (.lst (gate.map eI))), some (.d (.lst (hall.map eI))), x13, none]) ?_ fun S h => ?_
  · have hi2 : i62 ((dn + 2 : Nat) : Int) = true := i62_nat (by omega)
    simp? only [d2, hi2, Int.toNat_natCast]
    refine wp_forR (J := fun i S => ∃ (p0 p1 : Int) (pts : List Pt) (x4 : Option O), Pl p0 p1 ∧ Fxx (dn + 6) dn os A B E ((hall.idxOf (dn + 1) : Nat) : Int) gate hall cs pn pts ∧ NpOk (dn + 6) dn os cs pn pts 0 ∧ (∀ k, k < i → os[k]? = some (Str.ofString "pen") → ∀ p : Pt, pts[k]? = some p → Gd (dn + 6) cs "pen" p.2 p.1 (cs.getD k 0) (-1)) ∧ S = [pl p0 p1, some (.d (.int dn)), some (.own (.lst [.int a, .int b])), some (.d (.lst (os.map .str))), x4, y5, some (.d (.str w)), some (.d (.int hb)), some (.own (.lst (cs.map .int))), some (.own (.lst (pn.map .int))), some (.own (.lst (pts.map ePt))), some (.d (.lst (gate.map eI))), some (.d (.lst (hall.map eI))), x13, none]) ⟨p0, p1, pts, _, P, F, NP, fun k h => by omega, rfl⟩ (fun i hin S ⟨p0, p1, pts, x4, P, F, NP, PP, e⟩ => ?_) (fun S ⟨p0, p1, pts, x4, P, F, NP, PP, e⟩ => ⟨rfl, p0, p1, pts, x4, P, F, NP, PP, e⟩)
    subst e
    obtain ⟨v, hv⟩ : ∃ v, os[i]? = some v := ⟨_, List.getElem?_eq_getElem (by omega)⟩
    have gv' := get_str hv
    have lx : ixN pts.length (i : Int) = some i := ixN_n (by rw [F.lp]; omega)
    simp? only [gv']
    refine ⟨fun hvp => ?_, fun hvp => ⟨p0, p1, pts, _, P, F, NP, fun k hk ho p hp => ?_, rfl⟩⟩
    · refine letters_ok P (by omega) F.lc (by omega) F.bd fun p0 p1 gs ak P G => ?_
      simp? only [lx, setP pts i (gs, ak)]
      refine ⟨p0, p1, pts.set i (gs, ak), _, P, F.setP (.inl hin) _, fun j h1 h2 w' p h3 h4 h5 => ?_, fun k hk ho p hp => ?_, rfl⟩
      · have : i ≠ j := fun z => by subst z; rw [hv] at h3; cases h3; exact h4 hvp
        rw [List.getElem?_set_ne this] at h5
        exact NP j h1 h2 w' p h3 h4 h5
      · by_cases hik : i = k
        · subst hik
          rw [List.getElem?_set_self (by rw [F.lp]; omega)] at hp
          cases hp
          exact G
        · rw [List.getElem?_set_ne hik] at hp
          exact PP k (by omega) ho p hp
    · by_cases hik : i = k
      · subst hik
        rw [hv] at ho
        cases ho
        exact absurd rfl hvp
      · exact PP k (by omega) ho p hp
  clear P
  obtain ⟨p0, p1, pts, x4, P, F, NP, PP, rfl⟩ := h
  refine wp_cut (fun S => ∃ (p0 p1 : Int) (ask : Nat), Pl p0 p1 ∧ 1 ≤ ask ∧ ask ≤ 6 ∧ S = [pl p0 p1, some (.d (.int dn)), some (.own (.lst [.int a, .int b])), some (.d (.lst (os.map .str))), x4, y5, some (.d (.str w)), some (.d (.int hb)), some (.own (.lst (cs.map .int))), some (.own (.lst (pn.map .int))), some (.own (.lst (pts.map ePt))), some (.d (.lst (gate.map eI))), some (.d (.lst (hall.map eI))), x13, some (.d (.int ask))]) ?_ fun S h => ?_
  · simp? only []
    refine take_ok P (by omega) (by omega) fun p0 p1 r P r0 r1 => ?_
    simp? only []
    exact ⟨p0, p1, (1 + r).toNat, P, by omega, by omega, by rw [Int.toNat_of_nonneg (by omega)]⟩
  clear P
  obtain ⟨p0, p1, ask, P, ak1, ak2, rfl⟩ := h
  have e4 : pts.length = dn + 6 := F.lp
  refine wp_cut (fun S => S = [pl p0 p1, some (.d (.int dn)), some (.own (.lst [.int a, .int b])), some (.d (.lst (os.map .str))), x4, y5, some (.d (.str w)), some (.d (.int hb)), some (.own (.lst (cs.map .int))), some (.own (.lst (pn.map .int))), some (.own (.lst ((pts.set (dn + 4) (List.replicate ask (dn + 4), (ask : Int))).map ePt))), some (.d (.lst (gate.map eI))), some (.d (.lst (hall.map eI))), x13, some (.d (.int ask))]) ?_ fun S e => ?_
  · simp? only [d4, aMul_rep1 (show ask ≤ 1000000 by omega), e4, hxn (dn + 4) (by omega), rep_map, setP pts (dn + 4) (List.replicate ask (dn + 4), (ask : Int))]
  subst e
  have F4 := F.setP (k := dn + 4) (.inr rfl) (List.replicate ask (dn + 4), (ask : Int))
  refine wp_cut (fun S => ∃ (p0 p1 l5 : Int) (pts5 : List Pt), Pl p0 p1 ∧ 1 ≤ l5 ∧ l5 ≤ 4 ∧ pts5.length = dn + 6 ∧ pts5[dn + 5]? = some ([], l5) ∧ (∀ k, k < dn + 5 → pts5[k]? = (pts.set (dn + 4) (List.replicate ask (dn + 4), (ask : Int)))[k]?) ∧ S = [pl p0 p1, some (.d (.int dn)), some (.own (.lst [.int a, .int b])), some (.d (.lst (os.map .str))), x4, y5, some (.d (.str w)), some (.d (.int hb)), some (.own (.lst (cs.map .int))), some (.own (.lst (pn.map .int))), some (.own (.lst (pts5.map ePt))), some (.d (.lst (gate.map eI))), some (.d (.lst (hall.map eI))), x13, some (.d (.int ask))]) ?_ fun S h => ?_
  · simp? only [d5, List.length_set, e4, hxn (dn + 5) (by omega)]
    refine ⟨fun _ => ?_, fun _ => ⟨p0, p1, 1, _, P, by omega, by omega, by rw [List.length_set]; exact e4, F4.g5, fun k _ => rfl, rfl⟩⟩
    refine take_ok P (by omega) (by omega) fun p0 p1 r P r0 r1 => ?_
    have s5 := setP (pts.set (dn + 4) (List.replicate ask (dn + 4), (ask : Int))) (dn + 5) ([], 1 + r)
    simp only [List.map_nil] at s5
    simp? only [d5, List.length_set, e4, hxn (dn + 5) (by omega), s5]
    exact ⟨p0, p1, 1 + r, _, P, by omega, by omega, by simp [e4], List.getElem?_set_self (by rw [List.length_set]; omega), fun k hk => List.getElem?_set_ne (by omega), rfl⟩
  clear P
  obtain ⟨p0, p1, l5, pts5, P, l51, l52, pl5, p55, p5r, rfl⟩ := h
  simp? only []
  have L : Plant (dn + 6) os pts5 cs pn := plant_of hd osl os3 og0 og1 og2 og3 og4 og5 F NP PP A1 B1 E1 hgate hin1 hl3 hlt ak1 ak2 l51 l52 pl5 p55 p5r
  have T : Told (dn + 6) dn cs os pts5 pn := ⟨by rw [F.a0]; exact A1, by rw [F.a0, F.a1]; exact B1, by rw [F.a3, F.a1], F.pp (dn + 4) (by omega) og4, hall, by rw [p5r (dn + 3) (by omega)]; exact F4.g3, hin0, og3⟩
  refine put_ok P (by omega) (by omega) L T.c0 fun p0 p1 b od U V st P PU hst hU => ?_
  simp? only [x__law_planted]
  exact q p0 p1 os pts5 cs pn b od U V st P L T PU hst hU
end L_k17

namespace L_k17
open PySem PySem.Spec L2 FR
theorem Pk_mul {u : List Int} {s : Std} {c m t : Int} (hc : 0 ≤ c) (ht : 1 ≤ t) (h : Pk u s c m) : Pk (u.map (· * t)) s (c * t) m := by
  rw [Pk_gv] at h ⊢
  rw [gv_mul]
  by_cases h1 : s.1 ≠ "house"
  · rw [if_pos (.inl h1)] at h ⊢; exact h
  · by_cases h2 : c < 1
    · have : c = 0 := by omega
      subst this
      rw [if_pos (.inr (by omega))] at h
      rw [if_pos (.inr (by rw [Int.zero_mul]; omega))]
      exact h
    · have hct : 1 ≤ c * t := by
        have := Int.mul_le_mul_of_nonneg_right (show (1 : Int) ≤ c by omega) (show (0 : Int) ≤ t by omega)
        omega
      rw [if_neg (fun z => z.elim h1 h2)] at h
      rw [if_neg (fun z => z.elim h1 (fun z => by omega))]
      obtain ⟨a1, a2, y, a3, a4⟩ := h
      refine ⟨a1, by rw [List.length_map]; exact a2, y * t, by rw [List.getElem?_map, a3] <;> rfl, Int.mul_le_mul_of_nonneg_right a4 (by omega)⟩
theorem FitP.mul {b : List Std} (W : Wf b) {st : Nat} {u v : List Int} (hu : u.length = b.length) (F : FitP b st u v) {t : Int} (ht : 1 ≤ t) : FitP b st (u.map (· * t)) v := by
  have e : ∀ i, (u.map (· * t)).getD i 0 = u.getD i 0 * t := fun i => by
    rw [List.getD_eq_getElem?_getD, List.getD_eq_getElem?_getD, List.getElem?_map]
    cases u[i]? with
    | none => simp
    | some x => rfl
  have nn : ∀ i : Nat, i < u.length → 0 ≤ u.getD i 0 := fun i hi => by
    rw [getD_of (List.getElem?_eq_getElem hi)]; exact F.nn _ (List.getElem_mem _)
  refine ⟨fun y hy => ?_, ?_, clo_mul W hu F.cl (by omega), fun i s hs => ?_⟩
  · obtain ⟨z, hz, rfl⟩ := List.mem_map.mp hy
    exact Int.mul_nonneg (F.nn z hz) (by omega)
  · rw [e]
    have := Int.mul_le_mul_of_nonneg_right F.st (show (0 : Int) ≤ t by omega)
    omega
  · rw [e]
    exact Pk_mul (nn i (by rw [hu]; exact (List.getElem?_eq_some_iff.mp hs).1)) ht (F.pk i s hs)
theorem Put.bd {n : Nat} {ows : List Str} {pts : List Pt} {cs pn : List Int} {b : List Std} {od : List Nat} {U V : List Int} (L : Plant n ows pts cs pn) (h : Put n ows pts cs pn b od U V) : ∀ y ∈ U, 0 ≤ y ∧ y ≤ 10 ^ 50 := fun y hy => by
  obtain ⟨j, hj, e⟩ := List.getElem_of_mem hy
  obtain ⟨k, _, ek⟩ := perm_at h.hp (show j < n by rw [← h.lU]; exact hj)
  have := L.bd k
  rw [← (h.at_ k j ek).1, getD_of (List.getElem?_eq_getElem hj), e] at this
  exact this
theorem not_picked {n dn : Nat} {ows : List Str} {pts : List Pt} {cs pn : List Int} {b : List Std} {od : List Nat} {U V : List Int} (hd : dn + 6 = n) (L : Plant n ows pts cs pn) (h : Put n ows pts cs pn b od U V) (T : Told n dn cs ows pts pn) {j0 j3 : Nat} (h0 : od[dn]? = some j0) (h3 : od[dn + 3]? = some j3) : ∃ s : Std, b[j3]? = some s ∧ j0 ∈ s.2.2.map (·.2) ∧ ∀ st, ¬ FitP b st U (V.set j3 (((s.2.2.map (·.2)).idxOf j0 : Nat) : Int)) := by
  obtain ⟨hall, g1, g2, g3⟩ := T.h3
  obtain ⟨s, hs, a1, a2, a3⟩ := h.st _ _ _ _ h3 g3 g1
  have e0 : od.getD dn 0 = j0 := by rw [List.getD_eq_getElem?_getD, h0] <;> rfl
  have hm : j0 ∈ s.2.2.map (·.2) := by
    rw [a3]
    exact List.mem_map.mpr ⟨dn, g2, e0⟩
  refine ⟨s, hs, hm, fun st F => ?_⟩
  have pk := F.pk j3 s hs
  have lV := h.lV
  have lb := h.lb
  have hj3 := (List.getElem?_eq_some_iff.mp hs).1
  rw [getD_eq (by omega), (h.at_ _ _ h3).1, T.c3] at pk
  have c0 := T.c0
  have c1 := T.c1
  unfold Pk at pk
  rw [if_neg (fun z => z.elim (fun z => z a1) (fun z => by omega)), Int.toNat_natCast] at pk
  obtain ⟨_, _, mv, b1, b2⟩ := pk
  have hix := List.idxOf_lt_length_of_mem hm
  have hget : (s.2.2.map (·.2))[(s.2.2.map (·.2)).idxOf j0]? = some j0 := by rw [List.getElem?_eq_getElem hix, List.getElem_idxOf]
  rw [List.getElem?_map, b1] at hget
  have : mv.2 = j0 := Option.some.inj hget
  rw [this, (h.at_ _ _ h0).1] at b2
  omega
theorem law_ok {ns : List Int} (hl : ns.length ≤ 63) : wpM m_law [.d (.lk (ns.map .int))] (fun r _ => r = .d (.bl true)) := by
  unfold m_law b_law
  rw [wpM_fm]
  simp only [slots, List.replicate]
  refine wp_cut (fun S => ∃ (p0 p1 : Int), Pl p0 p1 ∧ S = [some (.d (.lk (ns.map .int))), pl p0 p1, none, none, none, none, none, none, none, none, none, none, none, none]) ?_ fun S h => ?_
  · simp? only []
    refine pool_ok hl fun p0 p1 P => ?_
    simp? only []
    exact ⟨p0, p1, P, rfl⟩
  obtain ⟨p0, p1, P, rfl⟩ := h
  refine wp_cut (fun S => ∃ (p0 p1 : Int) (dn : Nat), Pl p0 p1 ∧ dn ≤ 18 ∧ S = [some (.d (.lk (ns.map .int))), pl p0 p1, some (.d (.int dn)), none, none, none, none, none, none, none, none, none, none, none]) ?_ fun S h => ?_
  · simp? only []
    refine take_ok P (by omega) (by omega) fun p0 p1 r P r0 r1 => ?_
    simp? only []
    exact ⟨p0, p1, r.toNat, P, by omega, by rw [Int.toNat_of_nonneg r0]⟩
  clear P p0 p1
  obtain ⟨p0, p1, dn, P, hd, rfl⟩ := h
  refine wp_cut (fun S => ∃ (p0 p1 : Int) (dn : Nat), Pl p0 p1 ∧ dn ≤ 18 ∧ S = [some (.d (.lk (ns.map .int))), pl p0 p1, some (.d (.int dn)), none, none, none, none, none, none, none, none, none, none, none]) ?_ fun S h => ?_
  · simp? only []
    refine take_ok P (by omega) (by omega) fun p0 p1 r P r0 r1 => ?_
    simp? only []
    exact ⟨fun _ => ⟨p0, p1, 18, P, by omega, rfl⟩, fun _ => ⟨p0, p1, dn, P, hd, rfl⟩⟩
  clear P p0 p1 hd dn
  obtain ⟨p0, p1, dn, P, hd, rfl⟩ := h
  obtain ⟨n, hn⟩ : ∃ n, dn + 6 = n := ⟨_, rfl⟩
  refine wp_cut (fun S => ∃ (p0 p1 : Int) (ows : List Str) (pts : List Pt) (cs pn : List Int) (b : List Std) (od : List Nat) (U V : List Int) (st : Nat), Pl p0 p1 ∧ Plant n ows pts cs pn ∧ Told n dn cs ows pts pn ∧ Put n ows pts cs pn b od U V ∧ st < n ∧ 1 ≤ U.getD st 0 ∧ S = [some (.d (.lk (ns.map .int))), pl p0 p1, some (.d (.int dn)), some (.own (.lst ([.tup (b.map eS), .tup (U.map .int), .tup (V.map .int), .int (st : Int)] ++ (od.drop dn).map eI))), none, none, none, none, none, none, none, none, none, none]) ?_ fun S h => ?_
  · simp? only []
    refine planted_ok P (by omega) fun p0 p1 ows pts cs pn b od U V st P L T PU hst hU => ?_
    rw [hn] at L T PU hst
    simp? only []
    exact ⟨p0, p1, ows, pts, cs, pn, b, od, U, V, st, P, L, T, PU, hst, hU, rfl⟩
  clear P p0 p1
  obtain ⟨p0, p1, ows, pts, cs, pn, b, od, U, V, st, P, L, T, PU, hst, hU, rfl⟩ := h
  have W := PU.wf (by omega) L
  have lb := PU.lb
  have lU := PU.lU
  have lV := PU.lV
  have bd := PU.bd L
  have F := PU.fit L hU
  obtain ⟨j0, hj0, j0n⟩ := perm_getE PU.hp (show dn < n by omega)
  obtain ⟨j3, hj3, j3n⟩ := perm_getE PU.hp (show dn + 3 < n by omega)
  obtain ⟨j4, hj4, j4n⟩ := perm_getE PU.hp (show dn + 4 < n by omega)
  obtain ⟨j5, hj5, j5n⟩ := perm_getE PU.hp (show dn + 5 < n by omega)
  obtain ⟨s3, hs3, m3, no3⟩ := not_picked hn L PU T hj0 hj3
  have v4 : V.getD j4 0 < 0 := by rw [(PU.at_ _ _ hj4).2, T.p4]; omega
  have each : ∀ other, 1 ≤ U.getD other 0 → FitP b other U V := fun o ho => PU.fit L ho
  clear PU T L
  generalize hMD : ([.tup (b.map eS), .tup (U.map .int), .tup (V.map .int), .int (st : Int)] ++ (od.drop dn).map eI : List D) = MD
  have mdg : ∀ (i j : Nat), od[dn + i]? = some j → atI MD ((4 + i : Nat) : Int) = some (.int j) := fun i j h => by
    rw [← hMD]
    refine (atI_n _ _).trans ?_
    rw [List.getElem?_append_right (by simp), List.getElem?_map, List.getElem?_drop]
    have : 4 + i - [D.tup (b.map eS), .tup (U.map .int), .tup (V.map .int), .int (st : Int)].length = i := by simp
    rw [this, h]
    rfl
  have m4 : atI MD 4 = some (.int j0) := mdg 0 j0 hj0
  have m7 : atI MD 7 = some (.int j3) := mdg 3 j3 hj3
  have m8 : atI MD 8 = some (.int j4) := mdg 4 j4 hj4
  have m9 : atI MD 9 = some (.int j5) := mdg 5 j5 hj5
  have mdc : cutD MD none (some 4) = [.tup (b.map eS), .tup (U.map .int), .tup (V.map .int), .int (st : Int)] := by
    rw [← hMD]
    exact cut_lo _ (k := 4) (by simp)
  clear hMD mdg
  refine wp_cut (fun S => S = [some (.d (.lk (ns.map .int))), pl p0 p1, some (.d (.int dn)), some (.own (.lst MD)), bk b, tI U, tI V, some (.d (.int st)), none, none, none, none, none, none]) ?_ fun S h => ?_
  · simp? only [mdc]
  subst h
  refine wp_cut (fun S => S = [some (.d (.lk (ns.map .int))), pl p0 p1, some (.d (.int dn)), some (.own (.lst MD)), bk b, tI U, tI V, some (.d (.int st)), none, none, none, none, none, none]) ?_ fun S h => ?_
  · simp? only []
    refine is_fit_ok W (by omega) (by omega) (by omega) fun r hr => ?_
    have : r = true := hr.mpr F
    subst this
    simp? only [kBl, decide_true, Bool.not_true]
  subst h
  have pw6 : powOk 10 6 = true := by decide +kernel
  have e6 : (10 : Int) ^ (6 : Int).toNat = 1000000 := by decide
  refine wp_cut (fun S => ∃ (p0 p1 t : Int), Pl p0 p1 ∧ 1 ≤ t ∧ t ≤ 10 ^ 7 ∧ S = [some (.d (.lk (ns.map .int))), pl p0 p1, some (.d (.int dn)), some (.own (.lst MD)), bk b, tI U, tI V, some (.d (.int st)), some (.d (.int t)), none, none, none, none, none]) ?_ fun S h => ?_
  · simp? only [pw6, e6]
    refine take_ok P (by omega) (by omega) fun p0 p1 r P r0 r1 => ?_
    simp? only []
    exact ⟨p0, p1, 2 + r, P, by omega, by omega, rfl⟩
  clear P p0 p1
  obtain ⟨p0, p1, t, P, t1, t2, rfl⟩ := h
  refine wp_cut (fun S => ∃ x10, S = [some (.d (.lk (ns.map .int))), pl p0 p1, some (.d (.int dn)), some (.own (.lst MD)), bk b, tI U, tI V, some (.d (.int st)), some (.d (.int t)), tI (U.map (· * t)), x10, none, none, none]) ?_ fun S h => ?_
  · simp? only []
    refine wp_compP (enc := D.int) (as := U) (out := fun y => .int (y * t)) (by rw [lim_eq]; omega) (fun y hy => ?_) ?_
    · have := bd y hy
      have hm : mulOk y t = true := mulOk_60 (by omega) (by omega)
      simp? only [hm]
    · have e1 : List.map (fun y : Int => D.int (y * t)) U = (U.map (· * t)).map .int := by rw [List.map_map] <;> rfl
      rw [e1]
      simp? only []
      exact ⟨none, rfl⟩
  obtain ⟨x10, rfl⟩ := h
  refine wp_cut (fun S => S = [some (.d (.lk (ns.map .int))), pl p0 p1, some (.d (.int dn)), some (.own (.lst MD)), bk b, tI U, tI V, some (.d (.int st)), some (.d (.int t)), tI (U.map (· * t)), x10, none, none, none]) ?_ fun S h => ?_
  · simp? only []
    refine is_fit_ok W (by omega) (by rw [List.length_map]; omega) (by omega) fun r hr => ?_
    have : r = true := hr.mpr (F.mul W (by omega) t1)
    subst this
    simp? only [kBl, decide_true, Bool.not_true]
  subst h
  have hi : i62 (b.length : Int) = true := i62_nat (by omega)
  refine wp_cut (fun S => ∃ x11, S = [some (.d (.lk (ns.map .int))), pl p0 p1, some (.d (.int dn)), some (.own (.lst MD)), bk b, tI U, tI V, some (.d (.int st)), some (.d (.int t)), tI (U.map (· * t)), x10, x11, none, none]) ?_ fun S h => ?_
  · simp? only [hi, Int.toNat_natCast]
    refine wp_forR (J := fun _ S => ∃ (x11 : Option O), S = [some (.d (.lk (ns.map .int))), pl p0 p1, some (.d (.int dn)), some (.own (.lst MD)), bk b, tI U, tI V, some (.d (.int st)), some (.d (.int t)), tI (U.map (· * t)), x10, x11, none, none]) ⟨_, rfl⟩ (fun i hin S h => ?_) (fun S ⟨x11, e⟩ => ⟨rfl, x11, e⟩)
    obtain ⟨x11, rfl⟩ := h
    have gU := get_i (u := U) (i := i) (by omega)
    simp? only []
    refine is_fit_ok W hin (by omega) (by omega) fun r hr => ?_
    simp? only [gU]
    refine said_ok ?_ ?_
    · rw [Bool.eq_iff_iff, hr, decide_eq_true_eq]
      exact ⟨fun h => by have := h.st; omega, fun h => each i (by omega)⟩
    · simp? only [Bool.not_true]
      exact ⟨_, rfl⟩
  obtain ⟨x11, rfl⟩ := h
  refine wp_cut (fun S => S = [some (.d (.lk (ns.map .int))), pl p0 p1, some (.d (.int dn)), some (.own (.lst MD)), bk b, tI U, tI V, some (.d (.int st)), some (.d (.int t)), tI (U.map (· * t)), x10, x11, none, none]) ?_ fun S h => ?_
  · have z0 : List.replicate b.length (D.int 0) = (List.replicate b.length (0 : Int)).map .int := by rw [List.map_replicate]
    have z1 : List.replicate b.length (D.int (-1)) = (List.replicate b.length (-1 : Int)).map .int := by rw [List.map_replicate]
    simp? only [aMul_rep1 (show b.length ≤ 1000000 by omega), z0, z1]
    refine is_fit_ok W (by omega) (by rw [List.length_replicate]) (by rw [List.length_replicate]) fun r hr => ?_
    have : r = false := by
      cases r with
      | false => rfl
      | true =>
        exfalso
        have := (hr.mp rfl).st
        rw [List.getD_eq_getElem?_getD, List.getElem?_replicate, if_pos (by omega)] at this
        have : (1 : Int) ≤ 0 := this
        omega
    subst this
    simp? only [kBl, decide_true, Bool.not_true]
  subst h
  refine wp_cut (fun S => S = [some (.d (.lk (ns.map .int))), pl p0 p1, some (.d (.int dn)), some (.own (.lst MD)), bk b, tI U, tI V, some (.d (.int st)), some (.d (.int t)), tI (U.map (· * t)), x10, x11, some (.own (.lst (V.map .int))), none]) ?_ fun S h => ?_
  · simp? only []
  subst h
  have g3 := get_eS hs3
  have hmv := W.mv s3 (List.mem_of_getElem? hs3)
  have xj : ixN V.length (j3 : Int) = some j3 := ixN_n (by omega)
  refine wp_cut (fun S => ∃ x13, S = [some (.d (.lk (ns.map .int))), pl p0 p1, some (.d (.int dn)), some (.own (.lst MD)), bk b, tI U, tI V, some (.d (.int st)), some (.d (.int t)), tI (U.map (· * t)), x10, x11, some (.own (.lst ((V.set j3 (((s3.2.2.map (·.2)).idxOf j0 : Nat) : Int)).map .int))), x13]) ?_ fun S h => ?_
  · simp? only [m7, g3]
    refine wp_compP (enc := eM) (as := s3.2.2) (out := fun m => eI m.2) (by rw [lim_eq]; omega) (fun m _ => ?_) ?_
    · unfold eM eI
      simp? only []
    · have e1 : s3.2.2.map (fun m => eI m.2) = (s3.2.2.map (·.2)).map eI := by rw [List.map_map] <;> rfl
      rw [e1]
      simp? only [m4, m7, oIdx_natO m3, xj, set_map D.int]
      exact ⟨none, rfl⟩
  obtain ⟨x13, rfl⟩ := h
  refine wp_cut (fun S => S = [some (.d (.lk (ns.map .int))), pl p0 p1, some (.d (.int dn)), some (.own (.lst MD)), bk b, tI U, tI V, some (.d (.int st)), some (.d (.int t)), tI (U.map (· * t)), x10, x11, some (.own (.lst ((V.set j3 (((s3.2.2.map (·.2)).idxOf j0 : Nat) : Int)).map .int))), x13]) ?_ fun S h => ?_
  · simp? only []
    refine is_fit_ok W (by omega) (by omega) (by rw [List.length_set]; omega) fun r hr => ?_
    have : r = false := by
      cases r with
      | false => rfl
      | true => exact absurd (hr.mp rfl) (no3 st)
    subst this
    simp? only [kBl, decide_true, Bool.not_true]
  subst h
  have bd9 : ∀ y ∈ U, -(10 ^ 90) ≤ y ∧ y ≤ 10 ^ 90 := fun y hy => by have := bd y hy; omega
  refine wp_cut (fun S => S = [some (.d (.lk (ns.map .int))), pl p0 p1, some (.d (.int dn)), some (.own (.lst MD)), bk b, tI U, tI V, some (.d (.int st)), some (.d (.int t)), tI (U.map (· * t)), x10, x11, some (.own (.lst ((V.set j3 (((s3.2.2.map (·.2)).idxOf j0 : Nat) : Int)).map .int))), x13]) ?_ fun S h => ?_
  · simp? only []
    refine counts_ok W (by omega) (by omega) (by omega) bd9 ?_
    simp? only [Bool.not_true]
    refine plans_ok W (by omega) (by omega) (by omega) bd9 ?_
    simp? only [Bool.not_true]
  subst h
  simp? only [m8, m9]
  refine kinds_ok P W (by omega) (by omega) (by omega) bd9 (by omega) (by omega) v4 fun p0 p1 P => ?_
  simp? only []
theorem law_plain (ns : List Int) (hl : ns.length ≤ 63) : ∃ S', m_law [.d (.lk (ns.map .int))] = .ok (.d (.bl true)) S' := by
  obtain ⟨r, S, e, h⟩ := wpM_ok (law_ok hl)
  exact ⟨S, by rw [e, h]⟩
end L_k17

theorem PySem.Challenge.cw_alwayswritten_k17_is_fit_holds : PySem.Challenge.rw_alwayswritten_k17_is_fit.Holds := by
  exact L_k17.holds_of L_k17.law_plain
