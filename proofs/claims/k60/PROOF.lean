import PyProof.Rows.All
import Wide.All
import OpenK.AllK
import Wide.FinOn
import HandS.ForMost
import HandS.ForExc
import HandS.Flow
import HandS.Star
import HandS.Wide
import HandS.TupAny
import HandS.IsInst
import HandS.SortInts
import HandS.Style
import HandS.More
import KE.KSuper
import KE.KExcSuper
import KE.KExcInit
import HandS.Nested
import HandS.ClsMeth
import HandS.ExcInit
import HandS.ExcField
import HandS.ExcIs
import HandS.TryMany
import HandS.TryOnly
import PyProof.Rows.NestShow
import HandS.EndBits
import HandS.Conv
import KE.KExcIs
import PySem.Challenge.RW_jumblepost_k60_stores
import KE.RegKSuper
import KE.RegKIsAll
section part_U1
set_option Elab.async false
set_option linter.all false
set_option maxRecDepth 100000
set_option maxHeartbeats 1000000
/-! U1: values as trees, slots that hold a tree or own one, and how they lie in a heap. -/
namespace U
open PySem L2

/-- a value as a tree; what never changes is told by what it holds -/
inductive D where
  | non | bl (b : Bool) | int (i : Int) | str (s : Str) | ty (n : String) | fn (i : Nat) | cl (i : Nat)
  | tup (xs : List D) | lst (xs : List D) | scr (ns : List Int) | obj (c : Nat) (ks : List Str) (vs : List D) | dct (ks : List Key) (vs : List D)

/-- a slot: a value for ever, or an object that this slot alone holds; p: the object was lent by the caller -/
inductive Sl where
  | val (p : Bool) (d : D) | own (p : Bool) (d : D) | lent (p : Bool) (d : D) | exc
abbrev Ro := List (Option Sl)
/-- what an expression gives: a value, a new object that nobody holds, a slot's own object -/
inductive Rv where
  | v (d : D) | fr (d : D) | bo (i : Nat)
/-- an outcome: a result, an exception (its tree), or nothing that is said here -/
inductive XR (α : Type) where
  | ok (a : α) (ρ : Ro) | ex (e : D) (ρ : Ro) | no
abbrev EV := Ro → XR Rv

def XR.bind {α β : Type} (x : XR α) (f : α → Ro → XR β) : XR β := match x with
  | .ok a ρ => f a ρ | .ex e ρ => .ex e ρ | .no => .no
/-- the tree at hand -/
def con (ρ : Ro) : Rv → Option D
  | .v d => some d
  | .fr d => some d
  | .bo i => match ρ[i]? with
    | some (some (.val _ d)) => some d
    | some (some (.own _ d)) => some d
    | some (some (.lent _ d)) => some d
    | _ => none
/-- given away: a slot's own object is a value from then on -/
def esc (r : Rv) (ρ : Ro) : Option (D × Ro) := match r with
  | .v d => some (d, ρ)
  | .fr d => some (d, ρ)
  | .bo i => match ρ[i]? with
    | some (some (.val _ d)) => some (d, ρ)
    | some (some (.own p d)) => some (d, ρ.set i (some (.val p d)))
    | _ => none
def escAll : List Rv → Ro → Option (List D × Ro)
  | [], ρ => some ([], ρ)
  | r :: rs, ρ => match esc r ρ with
    | none => none
    | some (d, ρ1) => match escAll rs ρ1 with
      | none => none
      | some (ds, ρ2) => some (d :: ds, ρ2)

/-- where the module's defs and classes stand -/
structure Glob0 where
  fa : Nat → Addr
  ca : Nat → Addr
/-- .. and the caught error at hand: where it stands, its dict, its tree -/
structure Glob where
  g0 : Glob0
  xa : Addr
  xd : Addr
  xe : D
instance : Coe Glob Glob0 := ⟨Glob.g0⟩
abbrev Glob.fa (G : Glob) : Nat → Addr := G.g0.fa
abbrev Glob.ca (G : Glob) : Nat → Addr := G.g0.ca

section
variable (G : Glob0) (K : PySem.W.Frag) (F : Hp)
mutual
/-- v is d, all of it in F -/
def Rep : D → V → Prop
  | .non, v => v = .non
  | .bl b, v => v = .bl b
  | .int i, v => v = .int i
  | .str s, v => v = .str s
  | .ty n, v => v = .ty n
  | .fn i, v => v = .ref (G.fa i)
  | .cl i, v => v = .ref (G.ca i)
  | .tup ds, v => ∃ a xs, v = .ref a ∧ SqT K F a xs ∧ RepL ds xs
  | .lst ds, v => ∃ a xs, v = .ref a ∧ F a = some (.lst xs) ∧ RepL ds xs
  | .scr ns, v => ∃ a, v = .ref a ∧ SqL K F a (ns.map V.int)
  | .obj c ks ds, v => ∃ a dx gs, v = .ref a ∧ F a = some (.ins (G.ca c) dx gs) ∧ gs.map (·.1) = ks ∧ RepL ds (gs.map (·.2))
  | .dct ks ds, v => ∃ a kvs, v = .ref a ∧ F a = some (.dK kvs) ∧ kvs.map (·.1) = ks ∧ RepL ds (kvs.map (·.2))
def RepL : List D → List V → Prop
  | [], xs => xs = []
  | d :: ds, xs => ∃ x r, xs = x :: r ∧ Rep d x ∧ RepL ds r
end
/-- the object at a, its parts in F -/
def OwnAt (H : Hp) (a : Addr) : D → Prop
  | .lst ds => ∃ xs, H a = some (.lst xs) ∧ RepL G K F ds xs
  | .obj c ks ds => ∃ dx gs, H a = some (.ins (G.ca c) dx gs) ∧ gs.map (·.1) = ks ∧ RepL G K F ds (gs.map (·.2))
  | .dct ks ds => ∃ kvs, H a = some (.dK kvs) ∧ kvs.map (·.1) = ks ∧ RepL G K F ds (kvs.map (·.2))
  | _ => False
end

def Sub (F H : Hp) : Prop := ∀ b o, F b = some o → H b = some o
/-- the addresses that slots own -/
def Bo (σ : L2.St) (ρ : Ro) (a : Addr) : Prop := ∃ (i : Nat) (p : Bool) (d : D), ρ[i]? = some (some (.own p d)) ∧ σ[i]? = some (some (.ref a))
/-- the fields of the caught error -/
def ExF (G : Glob) (K : PySem.W.Frag) (F : Hp) : Prop := ∃ c ks ds fs, G.xe = .obj c ks ds ∧ F G.xd = some (.xd fs) ∧ fs.map (·.1) = ks ∧ RepL G K F ds (fs.map (·.2))
structure SlOk (G : Glob) (K : PySem.W.Frag) (F H : Hp) (σ : L2.St) (ρ : Ro) : Prop where
  len : σ.length = ρ.length
  val : ∀ (i : Nat) (p : Bool) (d : D), ρ[i]? = some (some (.val p d)) → ∃ v, σ[i]? = some (some v) ∧ Rep G K F d v
  own : ∀ (i : Nat) (p : Bool) (d : D), ρ[i]? = some (some (.own p d)) → ∃ a, σ[i]? = some (some (.ref a)) ∧ F a = none ∧ OwnAt G K F H a d
  lent : ∀ (i : Nat) (p : Bool) (d : D), ρ[i]? = some (some (.lent p d)) → ∃ a, σ[i]? = some (some (.ref a)) ∧ F a = none ∧ OwnAt G K F H a d ∧ ¬ Bo σ ρ a
  one : ∀ (i j : Nat) (p q : Bool) (d e : D) (a : Addr), ρ[i]? = some (some (.own p d)) → ρ[j]? = some (some (.own q e)) → σ[i]? = some (some (.ref a)) → σ[j]? = some (some (.ref a)) → i = j
  exc : ∀ (i : Nat), ρ[i]? = some (some .exc) → σ[i]? = some (some (.ref G.xa)) ∧ ExF G K F
/-- from a state to a later one -/
structure Go (G : Glob) (K : PySem.W.Frag) (σ : L2.St) (F H : Hp) (ρ : Ro) (σ' : L2.St) (F' H' : Hp) (ρ' : Ro) : Prop where
  sub : Sub F' H'
  ff : Sub F F'
  keep : ∀ b o, ¬ Bo σ ρ b → H b = some o → H' b = some o
  there : ∀ b, H b ≠ none → H' b ≠ none
  new : ∀ b, F' b ≠ none → F b ≠ none ∨ H b = none ∨ Bo σ ρ b
  sl : SlOk G K F' H' σ' ρ'
  own : ∀ b, Bo σ' ρ' b → Bo σ ρ b ∨ H b = none
  pinO : ∀ (i : Nat) (d : D), ρ'[i]? = some (some (.own true d)) → σ'[i]? = σ[i]? ∧ ∃ e : D, ρ[i]? = some (some (.own true e))
  pinV : ∀ (i : Nat) (d : D), ρ'[i]? = some (some (.val true d)) → σ'[i]? = σ[i]? ∧ ∃ e : D, ρ[i]? = some (some (.own true e)) ∨ ρ[i]? = some (some (.val true e))
  pinL : ∀ (i : Nat) (p : Bool) (d : D), ρ'[i]? = some (some (.lent p d)) ↔ ρ[i]? = some (some (.lent p d))
  sigL : ∀ (i : Nat) (p : Bool) (d : D), ρ[i]? = some (some (.lent p d)) → σ'[i]? = σ[i]?

section
variable {G : Glob} {K : PySem.W.Frag} {F F' F1 F2 H H' H1 H2 : Hp} {σ σ' σ1 σ2 : St} {ρ ρ' ρ1 ρ2 : Ro}
theorem Sub.refl : Sub F F := fun _ _ h => h
theorem Sub.trans (a : Sub F F1) (b : Sub F1 F2) : Sub F F2 := fun c o h => b c o (a c o h)
theorem Sub.sqL (e : Sub F H) {a : Addr} {xs : List V} (h : SqL K F a xs) : SqL K H a xs := Same.seq e h
theorem Sub.sqT (e : Sub F H) {a : Addr} {xs : List V} (h : SqT K F a xs) : SqT K H a xs := by
  rcases h with (h | ⟨o, h⟩) | h
  · exact .inl (.inl (e _ _ h))
  · exact .inl (.inr ⟨o, e _ _ h⟩)
  · exact .inr h
mutual
theorem Rep.mono (e : Sub F F') : ∀ (d : D) (v : V), Rep G K F d v → Rep G K F' d v
  | .non, _, h => h
  | .bl _, _, h => h
  | .int _, _, h => h
  | .str _, _, h => h
  | .ty _, _, h => h
  | .fn _, _, h => h
  | .cl _, _, h => h
  | .tup ds, v, h => by
    unfold Rep at h ⊢
    obtain ⟨a, xs, h1, h2, h3⟩ := h
    exact ⟨a, xs, h1, e.sqT h2, RepL.mono e ds xs h3⟩
  | .lst ds, v, h => by
    unfold Rep at h ⊢
    obtain ⟨a, xs, h1, h2, h3⟩ := h
    exact ⟨a, xs, h1, e _ _ h2, RepL.mono e ds xs h3⟩
  | .scr ns, v, h => by
    unfold Rep at h ⊢
    obtain ⟨a, h1, h2⟩ := h
    exact ⟨a, h1, e.sqL h2⟩
  | .obj c ks ds, v, h => by
    unfold Rep at h ⊢
    obtain ⟨a, dx, gs, h1, h2, h3, h4⟩ := h
    exact ⟨a, dx, gs, h1, e _ _ h2, h3, RepL.mono e ds _ h4⟩
  | .dct ks ds, v, h => by
    unfold Rep at h ⊢
    obtain ⟨a, kvs, h1, h2, h3, h4⟩ := h
    exact ⟨a, kvs, h1, e _ _ h2, h3, RepL.mono e ds _ h4⟩
theorem RepL.mono (e : Sub F F') : ∀ (ds : List D) (xs : List V), RepL G K F ds xs → RepL G K F' ds xs
  | [], _, h => h
  | d :: ds, xs, h => by
    unfold RepL at h ⊢
    obtain ⟨x, r, h1, h2, h3⟩ := h
    exact ⟨x, r, h1, Rep.mono e d x h2, RepL.mono e ds r h3⟩
end
theorem ExF.mono (e : Sub F F') (h : ExF G K F) : ExF G K F' := by
  obtain ⟨c, ks, ds, fs, h1, h2, h3, h4⟩ := h
  exact ⟨c, ks, ds, fs, h1, e _ _ h2, h3, RepL.mono e _ _ h4⟩
theorem OwnAt.mono {a : Addr} {d : D} (e : Sub F F') (h : OwnAt G K F H a d) : OwnAt G K F' H a d := by
  cases d <;> first | exact h.elim | skip
  · obtain ⟨xs, h1, h2⟩ := h
    exact ⟨xs, h1, RepL.mono e _ _ h2⟩
  · obtain ⟨dx, gs, h1, h2, h3⟩ := h
    exact ⟨dx, gs, h1, h2, RepL.mono e _ _ h3⟩
  · obtain ⟨kvs, h1, h2, h3⟩ := h
    exact ⟨kvs, h1, h2, RepL.mono e _ _ h3⟩
theorem OwnAt.heap {a : Addr} {d : D} (e : ∀ o, H a = some o → H' a = some o) (h : OwnAt G K F H a d) : OwnAt G K F H' a d := by
  cases d <;> first | exact h.elim | skip
  · obtain ⟨xs, h1, h2⟩ := h
    exact ⟨xs, e _ h1, h2⟩
  · obtain ⟨dx, gs, h1, h2, h3⟩ := h
    exact ⟨dx, gs, e _ h1, h2, h3⟩
  · obtain ⟨kvs, h1, h2, h3⟩ := h
    exact ⟨kvs, e _ h1, h2, h3⟩
theorem OwnAt.some_ {a : Addr} {d : D} (h : OwnAt G K F H a d) : H a ≠ none := by
  cases d <;> first | exact h.elim | skip
  · obtain ⟨xs, h1, h2⟩ := h
    rw [h1]; exact fun z => nomatch z
  · obtain ⟨dx, gs, h1, h2, h3⟩ := h
    rw [h1]; exact fun z => nomatch z
  · obtain ⟨kvs, h1, h2, h3⟩ := h
    rw [h1]; exact fun z => nomatch z
/-- an own object that is a value from now on -/
theorem OwnAt.rep {a : Addr} {d : D} (h : OwnAt G K F H a d) (hf : F a = H a) : Rep G K F d (.ref a) := by
  cases d <;> first | exact h.elim | skip
  · obtain ⟨xs, h1, h2⟩ := h
    unfold Rep
    exact ⟨a, xs, rfl, hf.trans h1, h2⟩
  · obtain ⟨dx, gs, h1, h2, h3⟩ := h
    unfold Rep
    exact ⟨a, dx, gs, rfl, hf.trans h1, h2, h3⟩
  · obtain ⟨kvs, h1, h2, h3⟩ := h
    unfold Rep
    exact ⟨a, kvs, rfl, hf.trans h1, h2, h3⟩
theorem Go.refl (s : Sub F H) (l : SlOk G K F H σ ρ) : Go G K σ F H ρ σ F H ρ :=
  ⟨s, Sub.refl, fun _ _ _ h => h, fun _ h => h, fun _ h => .inl h, l, fun _ h => .inl h, fun i d h => ⟨rfl, d, h⟩, fun i d h => ⟨rfl, d, .inr h⟩, fun _ _ _ => Iff.rfl, fun _ _ _ _ => rfl⟩
theorem Go.trans (a : Go G K σ F H ρ σ1 F1 H1 ρ1) (b : Go G K σ1 F1 H1 ρ1 σ2 F2 H2 ρ2) : Go G K σ F H ρ σ2 F2 H2 ρ2 where
  sub := b.sub
  ff := a.ff.trans b.ff
  keep := fun c o hc h => b.keep c o (fun z => by
    rcases a.own c z with z | z
    · exact hc z
    · rw [h] at z; cases z) (a.keep c o hc h)
  there := fun c h => b.there c (a.there c h)
  new := fun c h => by
    rcases b.new c h with z | z | z
    · exact a.new c z
    · right; left
      cases q : H c with
      | none => rfl
      | some o => exact absurd z (a.there c (by rw [q]; exact fun z => nomatch z))
    · rcases a.own c z with z | z
      · exact .inr (.inr z)
      · exact .inr (.inl z)
  sl := b.sl
  own := fun c h => by
    rcases b.own c h with z | z
    · exact a.own c z
    · right
      cases q : H c with
      | none => rfl
      | some o => exact absurd z (a.there c (by rw [q]; exact fun z => nomatch z))
  pinO := fun i d h => by
    obtain ⟨h1, e, h2⟩ := b.pinO i d h
    obtain ⟨h3, h4⟩ := a.pinO i e h2
    exact ⟨h1.trans h3, h4⟩
  pinV := fun i d h => by
    obtain ⟨h1, e, h2⟩ := b.pinV i d h
    rcases h2 with h2 | h2
    · obtain ⟨h3, e', h4⟩ := a.pinO i e h2
      exact ⟨h1.trans h3, e', .inl h4⟩
    · obtain ⟨h3, h4⟩ := a.pinV i e h2
      exact ⟨h1.trans h3, h4⟩
  pinL := fun i p d => (b.pinL i p d).trans (a.pinL i p d)
  sigL := fun i p d h => (b.sigL i p d ((a.pinL i p d).mpr h)).trans (a.sigL i p d h)
end

/-- v is the result r, made since H0 -/
def RepR (G : Glob) (K : PySem.W.Frag) (H0 F H : Hp) (σ : L2.St) (ρ : Ro) (r : Rv) (v : V) : Prop := match r with
  | .v d => Rep G K F d v
  | .fr d => ∃ a, v = .ref a ∧ F a = none ∧ OwnAt G K F H a d ∧ ¬ Bo σ ρ a ∧ H0 a = none
  | .bo i => σ[i]? = some (some v)
section
variable {G : Glob} {K : PySem.W.Frag} {F F' F1 F2 H H' H1 H2 H0 : Hp} {σ σ' σ1 σ2 : St} {ρ ρ' ρ1 ρ2 : Ro} {r : Rv} {v : V}
theorem RepR.older (h : RepR G K H1 F H2 σ ρ r v) (g : ∀ b, H b ≠ none → H1 b ≠ none) : RepR G K H F H2 σ ρ r v := by
  cases r with
  | v d => exact h
  | fr d =>
    obtain ⟨a, h1, h2, h3, h4, h5⟩ := h
    refine ⟨a, h1, h2, h3, h4, ?_⟩
    cases q : H a with
    | none => rfl
    | some o => exact absurd h5 (g a (by rw [q]; exact fun z => nomatch z))
  | bo i => exact h
/-- a result stays while other things go on -/
theorem RepR.go (h : RepR G K H0 F H σ ρ r v) (g : Go G K σ F H ρ σ F' H' ρ') : RepR G K H0 F' H' σ ρ' r v := by
  cases r with
  | v d => exact Rep.mono g.ff d v h
  | fr d =>
    obtain ⟨a, h1, h2, h3, h4, h5⟩ := h
    have hs : H a ≠ none := h3.some_
    refine ⟨a, h1, ?_, (h3.heap fun o e => g.keep a o h4 e).mono g.ff, fun z => ?_, h5⟩
    · cases q : F' a with
      | none => rfl
      | some o =>
        rcases g.new a (by rw [q]; exact fun z => nomatch z) with z | z | z
        · exact absurd h2 z
        · exact absurd z hs
        · exact absurd z h4
    · rcases g.own a z with z | z
      · exact h4 z
      · exact hs z
  | bo i => exact h
end
end U
end part_U1

section part_U2
set_option Elab.async false
set_option linter.all false
set_option maxRecDepth 100000
set_option maxHeartbeats 1000000
/-! U2: outcomes over a heap; expressions one behind the other. -/
namespace U
open PySem L2
/-- an exception's class and its own dict -/
def ExAt (G : Glob) (K : PySem.W.Frag) (F : Hp) (cls : Value) (dx : Addr) (e : D) : Prop :=
  ∃ c ks ds fs, e = .obj c ks ds ∧ cls = .ref (G.ca c) ∧ F dx = some (.xd fs) ∧ fs.map (·.1) = ks ∧ RepL G K F ds (fs.map (·.2))
theorem ExAt.mono {G : Glob} {K : PySem.W.Frag} {F F' : Hp} {cls : Value} {dx : Addr} {e : D} (s : Sub F F') (h : ExAt G K F cls dx e) : ExAt G K F' cls dx e := by
  obtain ⟨c, ks, ds, fs, h1, h2, h3, h4, h5⟩ := h
  exact ⟨c, ks, ds, fs, h1, h2, s _ _ h3, h4, RepL.mono s _ _ h5⟩
abbrev RpT (α β : Type) := Hp → Hp → Hp → L2.St → Ro → α → β → Prop
/-- what is asked of an outcome -/
def Out (G : Glob) (K : PySem.W.Frag) (W : WX) {α β : Type} (Rp : RpT α β) (σ : L2.St) (F H : Hp) (ρ : Ro) (o : XR α) (Q : β → Hp → Prop) : Prop := match o with
  | .ok r ρ' => ∀ v F' H', Go G K σ F H ρ σ F' H' ρ' → Rp H F' H' σ ρ' r v → Q v H'
  | .ex e ρ' => ∀ cls dx F' H', Go G K σ F H ρ σ F' H' ρ' → ExAt G K F' cls dx e → W cls (some dx) σ H'
  | .no => False
def Rd (G : Glob) (K : PySem.W.Frag) (W : WX) {α β : Type} (Rp : RpT α β) (f : Ro → XR α) : L2.St → Hp → (β → Hp → Prop) → Prop := fun σ H Q =>
  ∃ ρ F, Sub F H ∧ SlOk G K F H σ ρ ∧ Out G K W Rp σ F H ρ (f ρ) Q
/-- a result that was new since H1 is new since H -/
structure OldR {α β : Type} (Rp : RpT α β) : Prop where
  old : ∀ {H H1 F H2 : Hp} {σ : L2.St} {ρ : Ro} {r : α} {v : β}, Rp H1 F H2 σ ρ r v → (∀ b, H b ≠ none → H1 b ≠ none) → Rp H F H2 σ ρ r v
abbrev RdE (G : Glob) (K : PySem.W.Frag) (W : WX) (f : EV) : TE := Rd G K W (RepR G K) f
def RepB : RpT Bool Bool := fun _ _ _ _ _ b c => b = c
abbrev RdT (G : Glob) (K : PySem.W.Frag) (W : WX) (f : Ro → XR Bool) : TT := Rd G K W RepB f
/-- several results, no two of them one new object -/
inductive RepRs (G : Glob) (K : PySem.W.Frag) (H0 F H : Hp) (σ : L2.St) (ρ : Ro) : List Rv → List V → Prop
  | nil : RepRs G K H0 F H σ ρ [] []
  | cons {r : Rv} {v : V} {rs : List Rv} {vs : List V} : RepR G K H0 F H σ ρ r v → RepRs G K H0 F H σ ρ rs vs → (∀ d, r = .fr d → ∀ (i : Nat) (e : D), rs[i]? = some (.fr e) → vs[i]? ≠ some v) → RepRs G K H0 F H σ ρ (r :: rs) (v :: vs)
abbrev AV := Ro → XR (List Rv)
abbrev RdA (G : Glob) (K : PySem.W.Frag) (W : WX) (f : AV) : TA := Rd G K W (RepRs G K) f
section
variable {G : Glob} {K : PySem.W.Frag} {W : WX} {α β γ δ : Type} {Rp : RpT α β} {Rq : RpT γ δ} {σ : L2.St} {F F1 F2 F' H H1 H2 H' H0 : Hp} {ρ ρ1 ρ2 ρ' : Ro} {o : XR α} {Q Q' : β → Hp → Prop}
theorem oldE : OldR (RepR G K) := ⟨fun h g => RepR.older h g⟩
theorem oldB : OldR RepB := ⟨fun h _ => h⟩
theorem RepRs.older {rs : List Rv} {vs : List V} (h : RepRs G K H1 F H2 σ ρ rs vs) (g : ∀ b, H b ≠ none → H1 b ≠ none) : RepRs G K H F H2 σ ρ rs vs := by
  induction h with
  | nil => exact .nil
  | cons a b c ih => exact .cons (a.older g) ih c
theorem oldA : OldR (RepRs G K) := ⟨fun h g => RepRs.older h g⟩
theorem RepRs.go {rs : List Rv} {vs : List V} (h : RepRs G K H0 F H σ ρ rs vs) (g : Go G K σ F H ρ σ F' H' ρ') : RepRs G K H0 F' H' σ ρ' rs vs := by
  induction h with
  | nil => exact .nil
  | cons a b c ih => exact .cons (a.go g) ih c
theorem Out.mono (h : Out G K W Rp σ F H ρ o Q) (m : ∀ v H', Q v H' → Q' v H') : Out G K W Rp σ F H ρ o Q' := by
  cases o with
  | ok r ρ' => exact fun v F' H' g p => m _ _ (h v F' H' g p)
  | ex e ρ' => exact h
  | no => exact h
theorem Rd.mono {f : Ro → XR α} (m : ∀ v H', Q v H' → Q' v H') (h : Rd G K W Rp f σ H Q) : Rd G K W Rp f σ H Q' := by
  obtain ⟨ρ, F, h1, h2, h3⟩ := h
  exact ⟨ρ, F, h1, h2, h3.mono m⟩
theorem Out.after (hO : OldR Rp) (g : Go G K σ F H ρ σ F1 H1 ρ1) (h : Out G K W Rp σ F H ρ o Q) : Out G K W Rp σ F1 H1 ρ1 o Q := by
  cases o with
  | ok r ρ' => exact fun v F' H' g1 p => h v F' H' (g.trans g1) (hO.old p g.there)
  | ex e ρ' => exact fun cls dx F' H' g1 p => h cls dx F' H' (g.trans g1) p
  | no => exact h
/-- f, then g of its result -/
theorem rd_bind (hO : OldR Rq) {f : Ro → XR α} {g : α → Ro → XR γ} {Q : δ → Hp → Prop} (s : Sub F H) (l : SlOk G K F H σ ρ) (h : Out G K W Rq σ F H ρ ((f ρ).bind g) Q) :
    Rd G K W Rp f σ H fun x H1 => ∃ r ρ1 F1, Go G K σ F H ρ σ F1 H1 ρ1 ∧ Rp H F1 H1 σ ρ1 r x ∧ Out G K W Rq σ F H ρ (g r ρ1) Q := by
  refine ⟨ρ, F, s, l, ?_⟩
  cases e : f ρ with
  | ok r ρ1 =>
    rw [e] at h
    exact fun v F1 H1 g1 p1 => ⟨r, ρ1, F1, g1, p1, h⟩
  | ex e' ρ1 =>
    rw [e] at h
    exact h
  | no =>
    rw [e] at h
    exact h
theorem Out.done {r : α} {v : β} (h : Out G K W Rp σ F H ρ (.ok r ρ') Q) (g : Go G K σ F H ρ σ F' H' ρ') (p : Rp H F' H' σ ρ' r v) : Q v H' := h v F' H' g p
/-- the heap grows by a new object that F does not know -/
theorem Go.alloc {a : Addr} {u : HO} (g : Go G K σ F H ρ σ F1 H1 ρ1) (n : H1 a = none) : Go G K σ F H ρ σ F1 (upd H1 a u) ρ1 := by
  refine g.trans ⟨fun b o h => ?_, Sub.refl, fun b o _ h => ?_, fun b h => ?_, fun _ h => .inl h, ⟨g.sl.len, g.sl.val, fun i p d h => ?_, fun i p d h => ?_, g.sl.one, g.sl.exc⟩, fun _ h => .inl h, fun i d h => ⟨rfl, d, h⟩, fun i d h => ⟨rfl, d, .inr h⟩, fun _ _ _ => Iff.rfl, fun _ _ _ _ => rfl⟩
  · rw [upd_ne (ne_of_none (g.sub b o h) n)]; exact g.sub b o h
  · rw [upd_ne (ne_of_none h n)]; exact h
  · unfold upd
    split
    · exact fun z => nomatch z
    · exact h
  · obtain ⟨c, h1, h2, h3⟩ := g.sl.own i p d h
    exact ⟨c, h1, h2, h3.heap fun o e => by rw [upd_ne (ne_of_none e n)]; exact e⟩
  · obtain ⟨c, h1, h2, h3, h4⟩ := g.sl.lent i p d h
    exact ⟨c, h1, h2, h3.heap fun o e => by rw [upd_ne (ne_of_none e n)]; exact e, h4⟩
theorem bo_some {a : Addr} (l : SlOk G K F H σ ρ) (h : Bo σ ρ a) : H a ≠ none := by
  obtain ⟨i, p, d, h1, h2⟩ := h
  obtain ⟨c, h3, _, h4⟩ := l.own i p d h1
  rw [h2] at h3
  cases h3
  exact h4.some_
theorem bo_free {a : Addr} (l : SlOk G K F H σ ρ) (h : Bo σ ρ a) : F a = none := by
  obtain ⟨i, p, d, h1, h2⟩ := h
  obtain ⟨c, h3, h4, _⟩ := l.own i p d h1
  rw [h2] at h3
  cases h3
  exact h4
/-- what stands at a, outside of the slots and new since H, is known from now on -/
theorem Go.know {a : Addr} {u : HO} {τ : L2.St} (g : Go G K σ F H ρ τ F1 H1 ρ1) (n0 : H a = none) (n1 : F1 a = none) (e : H1 a = some u) (nb : ¬ Bo τ ρ1 a) (nl : ∀ (i : Nat) (p : Bool) (d : D), ρ1[i]? = some (some (.lent p d)) → τ[i]? ≠ some (some (.ref a))) : Go G K σ F H ρ τ (upd F1 a u) H1 ρ1 := by
  have sF : Sub F1 (upd F1 a u) := fun b o h => by rw [upd_ne (ne_of_none h n1)]; exact h
  refine ⟨fun b o h => ?_, g.ff.trans sF, g.keep, g.there, fun b h => ?_, ⟨g.sl.len, fun i p d h => ?_, fun i p d h => ?_, fun i p d h => ?_, g.sl.one, fun i h => (g.sl.exc i h).imp id (ExF.mono sF)⟩, g.own, g.pinO, g.pinV, g.pinL, g.sigL⟩
  · by_cases hb : b = a
    · subst hb; rw [upd_same] at h; cases h; exact e
    · rw [upd_ne hb] at h; exact g.sub b o h
  · by_cases hb : b = a
    · subst hb; exact .inr (.inl n0)
    · rw [upd_ne hb] at h; exact g.new b h
  · obtain ⟨v, h1, h2⟩ := g.sl.val i p d h
    exact ⟨v, h1, Rep.mono sF d v h2⟩
  · obtain ⟨c, h1, h2, h3⟩ := g.sl.own i p d h
    refine ⟨c, h1, ?_, h3.mono sF⟩
    rw [upd_ne (fun z => nb ⟨i, p, d, h, by rw [← z]; exact h1⟩)]; exact h2
  · obtain ⟨c, h1, h2, h3, h4⟩ := g.sl.lent i p d h
    refine ⟨c, h1, ?_, h3.mono sF, h4⟩
    rw [upd_ne (fun z => nl i p d h (by rw [← z]; exact h1))]; exact h2
/-- a new object that never changes -/
theorem Go.allocF {a : Addr} {u : HO} (g : Go G K σ F H ρ σ F1 H1 ρ1) (n : H1 a = none) : Go G K σ F H ρ σ (upd F1 a u) (upd H1 a u) ρ1 := by
  have n0 : H a = none := by
    cases q : H a with
    | none => rfl
    | some o => exact absurd n (g.there a (by rw [q]; exact fun z => nomatch z))
  have n1 : F1 a = none := by
    cases q : F1 a with
    | none => rfl
    | some o => rw [g.sub a o q] at n; cases n
  refine (g.alloc (u := u) n).know n0 n1 upd_same (fun z => ?_) fun i p d h z => ?_
  · have := bo_some g.sl z
    exact this n
  · obtain ⟨c, h1, h2, h3, h4⟩ := g.sl.lent i p d h
    rw [z] at h1; cases h1
    exact h3.some_ n
theorem set_get {ρ : Ro} {i j : Nat} {x : Option Sl} {y : Option Sl} (h : (ρ.set i x)[j]? = some y) : (j = i ∧ y = x) ∨ (j ≠ i ∧ ρ[j]? = some y) := by
  by_cases e : i = j
  · subst e
    by_cases hl : i < ρ.length
    · rw [List.getElem?_set_self hl] at h
      exact .inl ⟨rfl, (Option.some.inj h).symm⟩
    · rw [List.getElem?_eq_none (by rw [List.length_set]; omega)] at h; cases h
  · rw [List.getElem?_set_ne e] at h
    exact .inr ⟨fun z => e z.symm, h⟩
/-- a slot's own object is a value from now on -/
theorem Go.freeze {i : Nat} {p : Bool} {d : D} {τ : L2.St} (g : Go G K σ F H ρ τ F1 H1 ρ1) (e : ρ1[i]? = some (some (.own p d))) : ∃ a u, τ[i]? = some (some (.ref a)) ∧ H1 a = some u ∧ Bo τ ρ1 a ∧ Rep G K (upd F1 a u) d (.ref a) ∧ Go G K σ F H ρ τ (upd F1 a u) H1 (ρ1.set i (some (.val p d))) := by
  obtain ⟨a, h1, h2, h3⟩ := g.sl.own i p d e
  obtain ⟨u, hu⟩ := Option.ne_none_iff_exists'.mp h3.some_
  have hB : Bo τ ρ1 a := ⟨i, p, d, e, h1⟩
  have sF : Sub F1 (upd F1 a u) := fun b o h => by rw [upd_ne (ne_of_none h h2)]; exact h
  have hr : Rep G K (upd F1 a u) d (.ref a) := (h3.mono sF).rep (by rw [upd_same, hu])
  refine ⟨a, u, h1, hu, hB, hr, g.trans ⟨fun b o h => ?_, sF, fun _ _ _ h => h, fun _ h => h, fun b h => ?_, ⟨by rw [List.length_set]; exact g.sl.len, fun j q c h => ?_, fun j q c h => ?_, fun j q c h => ?_, fun j k q r c c' b h h' => ?_, fun j h => by
    rcases set_get h with ⟨_, z⟩ | ⟨_, h⟩
    · cases z
    · exact (g.sl.exc j h).imp id (ExF.mono sF)⟩, fun b h => ?_, fun j c h => ?_, fun j c h => ?_, fun j q c => ?_, fun _ _ _ _ => rfl⟩⟩
  · by_cases hb : b = a
    · subst hb; rw [upd_same] at h; cases h; exact hu
    · rw [upd_ne hb] at h; exact g.sub b o h
  · by_cases hb : b = a
    · subst hb; exact .inr (.inr hB)
    · rw [upd_ne hb] at h; exact .inl h
  · rcases set_get h with ⟨rfl, z⟩ | ⟨hj, h⟩
    · cases z; exact ⟨.ref a, h1, hr⟩
    · obtain ⟨v, q1, q2⟩ := g.sl.val j q c h
      exact ⟨v, q1, Rep.mono sF _ _ q2⟩
  · rcases set_get h with ⟨rfl, z⟩ | ⟨hj, h⟩
    · cases z
    · obtain ⟨b, q1, q2, q3⟩ := g.sl.own j q c h
      refine ⟨b, q1, ?_, q3.mono sF⟩
      rw [upd_ne (fun z => hj (g.sl.one j i q p c d a h e (by rw [← z]; exact q1) h1))]; exact q2
  · rcases set_get h with ⟨rfl, z⟩ | ⟨hj, h⟩
    · cases z
    · obtain ⟨b, q1, q2, q3, q4⟩ := g.sl.lent j q c h
      refine ⟨b, q1, ?_, q3.mono sF, fun z => q4 ?_⟩
      · rw [upd_ne (fun z => q4 (by rw [z]; exact hB))]; exact q2
      · obtain ⟨k, r, c', z1, z2⟩ := z
        rcases set_get z1 with ⟨rfl, z⟩ | ⟨hk, z1⟩
        · cases z
        · exact ⟨k, r, c', z1, z2⟩
  · rcases set_get h with ⟨rfl, z⟩ | ⟨hj, h⟩
    · cases z
    · rcases set_get h' with ⟨rfl, z⟩ | ⟨hk, h'⟩
      · cases z
      · exact g.sl.one j k q r c c' b h h'
  · obtain ⟨k, r, c', z1, z2⟩ := h
    rcases set_get z1 with ⟨rfl, z⟩ | ⟨hk, z1⟩
    · cases z
    · exact .inl ⟨k, r, c', z1, z2⟩
  · rcases set_get h with ⟨rfl, z⟩ | ⟨hj, h⟩
    · cases z
    · exact ⟨rfl, c, h⟩
  · rcases set_get h with ⟨rfl, z⟩ | ⟨hj, h⟩
    · cases z; exact ⟨rfl, d, .inl e⟩
    · exact ⟨rfl, c, .inr h⟩
  · constructor
    · intro h
      rcases set_get h with ⟨rfl, z⟩ | ⟨hj, h⟩
      · cases z
      · exact h
    · intro h
      by_cases hj : i = j
      · subst hj; rw [e] at h; cases h
      · rw [List.getElem?_set_ne hj]; exact h
theorem fr_notLent {d : D} {v : V} {τ : L2.St} (l : SlOk G K F H σ ρ) (g : Go G K σ F H ρ τ F1 H1 ρ1) {a : Addr} (n : H a = none) : ∀ (i : Nat) (p : Bool) (d : D), ρ1[i]? = some (some (.lent p d)) → τ[i]? ≠ some (some (.ref a)) := by
  intro i p c hl z
  rw [g.sigL i p c ((g.pinL i p c).mp hl)] at z
  obtain ⟨b, h1, h2, h3, h4⟩ := l.lent i p c ((g.pinL i p c).mp hl)
  rw [z] at h1; cases h1
  exact h3.some_ n
/-- a result given away -/
theorem esc_go {τ : L2.St} {r : Rv} {v : V} {d : D} (l : SlOk G K F H σ ρ) (g : Go G K σ F H ρ τ F1 H1 ρ1) (p : RepR G K H F1 H1 τ ρ1 r v) (e : esc r ρ1 = some (d, ρ2)) :
    ∃ F2, Go G K σ F H ρ τ F2 H1 ρ2 ∧ Rep G K F2 d v ∧ Sub F1 F2 ∧ (∀ b, F2 b ≠ none → F1 b ≠ none ∨ Bo τ ρ1 b ∨ (v = .ref b ∧ ∃ d, r = .fr d)) ∧ ∀ b, Bo τ ρ2 b → Bo τ ρ1 b := by
  cases r with
  | v d' =>
    cases e
    exact ⟨F1, g, p, Sub.refl, fun _ h => .inl h, fun _ h => h⟩
  | fr d' =>
    cases e
    obtain ⟨a, h1, h2, h3, h4, h5⟩ := p
    obtain ⟨u, hu⟩ := Option.ne_none_iff_exists'.mp h3.some_
    have sF : Sub F1 (upd F1 a u) := fun b o h => by rw [upd_ne (ne_of_none h h2)]; exact h
    refine ⟨upd F1 a u, g.know h5 h2 hu h4 (fr_notLent (v := v) (d := d) l g h5), ?_, sF, fun b h => ?_, fun _ h => h⟩
    · rw [h1]; exact (h3.mono sF).rep (by rw [upd_same, hu])
    · by_cases hb : b = a
      · rw [hb]; exact .inr (.inr ⟨h1, d, rfl⟩)
      · rw [upd_ne hb] at h; exact .inl h
  | bo i =>
    simp only [esc] at e
    split at e
    · rename_i q c hq
      cases e
      obtain ⟨w, h1, h2⟩ := g.sl.val i _ _ hq
      have p' : τ[i]? = some (some v) := p
      rw [p'] at h1; cases h1
      exact ⟨F1, g, h2, Sub.refl, fun _ h => .inl h, fun _ h => h⟩
    · rename_i q c hq
      cases e
      obtain ⟨a, u, h1, h2, h3, h4, h5⟩ := g.freeze hq
      have p' : τ[i]? = some (some v) := p
      rw [p'] at h1; cases h1
      refine ⟨_, h5, h4, fun b o h => by rw [upd_ne (ne_of_none h (bo_free g.sl h3))]; exact h, fun b h => ?_, fun b h => ?_⟩
      · by_cases hb : b = a
        · rw [hb]; exact .inr (.inl h3)
        · rw [upd_ne hb] at h; exact .inl h
      · obtain ⟨k, r, c', z1, z2⟩ := h
        rcases set_get z1 with ⟨rfl, z⟩ | ⟨hk, z1⟩
        · cases z
        · exact ⟨k, r, c', z1, z2⟩
    · cases e
theorem RepR.esc_keep {τ : L2.St} {r r' : Rv} {v w : V} (h : RepR G K H F1 H1 τ ρ1 r v) (nf : ∀ d d', r' = .fr d' → r = .fr d → v ≠ w) (hF : ∀ b, F2 b ≠ none → F1 b ≠ none ∨ Bo τ ρ1 b ∨ (w = .ref b ∧ ∃ d, r' = .fr d)) (hs : Sub F1 F2) (hB : ∀ b, Bo τ ρ2 b → Bo τ ρ1 b) : RepR G K H F2 H1 τ ρ2 r v := by
  cases r with
  | v d => exact Rep.mono hs d v h
  | fr d =>
    obtain ⟨a, h1, h2, h3, h4, h5⟩ := h
    refine ⟨a, h1, ?_, h3.mono hs, fun z => h4 (hB a z), h5⟩
    cases q : F2 a with
    | none => rfl
    | some o =>
      rcases hF a (by rw [q]; exact fun z => nomatch z) with z | z | ⟨z, d', hd'⟩
      · exact absurd h2 z
      · exact absurd z h4
      · exact absurd (h1.trans z.symm) (nf d d' hd' rfl)
  | bo i => exact h
theorem escAll_go {τ : L2.St} : ∀ {rs : List Rv} {vs : List V} {ds : List D} {F1 : Hp} {ρ1 ρ2 : Ro}, SlOk G K F H σ ρ → Go G K σ F H ρ τ F1 H1 ρ1 → RepRs G K H F1 H1 τ ρ1 rs vs → escAll rs ρ1 = some (ds, ρ2) →
    ∃ F2, Go G K σ F H ρ τ F2 H1 ρ2 ∧ RepL G K F2 ds vs ∧ Sub F1 F2
  | [], vs, ds, F1, ρ1, ρ2, l, g, p, e => by
    cases p
    cases e
    exact ⟨F1, g, by unfold RepL; rfl, Sub.refl⟩
  | r :: rs, vs, ds, F1, ρ1, ρ2, l, g, p, e => by
    cases p with
    | cons a b c =>
      rename_i v vs
      simp only [escAll] at e
      split at e
      · cases e
      · rename_i d ρ3 e1
        split at e
        · cases e
        · rename_i ds' ρ4 e2
          cases e
          obtain ⟨F2, g2, q1, q2, q3, q4⟩ := esc_go l g a e1
          -- the others stay
          have b' : RepRs G K H F2 H1 τ ρ3 rs vs := by
            have key : ∀ {rs' : List Rv} {vs' : List V}, RepRs G K H F1 H1 τ ρ1 rs' vs' → (∀ d, r = .fr d → ∀ (i : Nat) (e : D), rs'[i]? = some (.fr e) → vs'[i]? ≠ some v) → RepRs G K H F2 H1 τ ρ3 rs' vs' := by
              intro rs' vs' h
              induction h with
              | nil => exact fun _ => .nil
              | cons x y z ih =>
                intro hv
                refine .cons (x.esc_keep (fun d1 d2 hd2 hd1 z' => hv d2 hd2 0 d1 (by simp [hd1]) (by simp [z'])) q3 q2 q4) (ih fun d1 hd1 i e' h' => ?_) z
                have := hv d1 hd1 (i + 1) e' (by simpa using h')
                simpa using this
            exact key b c
          obtain ⟨F3, g3, q5, q6⟩ := escAll_go l g2 b' e2
          refine ⟨F3, g3, ?_, q2.trans q6⟩
          unfold RepL
          exact ⟨v, vs, rfl, Rep.mono q6 _ _ q1, q5⟩
/-- the tree of what is at hand, its top as the heap tells -/
def At (G : Glob) (K : PySem.W.Frag) (F H : Hp) (d : D) (v : V) : Prop := match d with
  | .lst ds => ∃ a xs, v = .ref a ∧ H a = some (.lst xs) ∧ RepL G K F ds xs
  | .obj c ks ds => ∃ a dx gs, v = .ref a ∧ H a = some (.ins (G.ca c) dx gs) ∧ gs.map (·.1) = ks ∧ RepL G K F ds (gs.map (·.2))
  | .dct ks ds => ∃ a kvs, v = .ref a ∧ H a = some (.dK kvs) ∧ kvs.map (·.1) = ks ∧ RepL G K F ds (kvs.map (·.2))
  | d => Rep G K F d v
theorem At.of_rep {d : D} {v : V} (s : Sub F H) (h : Rep G K F d v) : At G K F H d v := by
  cases d <;> first | exact h | skip
  · unfold Rep at h
    obtain ⟨a, xs, h1, h2, h3⟩ := h
    exact ⟨a, xs, h1, s _ _ h2, h3⟩
  · unfold Rep at h
    obtain ⟨a, dx, gs, h1, h2, h3, h4⟩ := h
    exact ⟨a, dx, gs, h1, s _ _ h2, h3, h4⟩
  · unfold Rep at h
    obtain ⟨a, kvs, h1, h2, h3, h4⟩ := h
    exact ⟨a, kvs, h1, s _ _ h2, h3, h4⟩
theorem At.of_own {d : D} {a : Addr} (h : OwnAt G K F H a d) : At G K F H d (.ref a) := by
  cases d <;> first | exact h.elim | skip
  · obtain ⟨xs, h1, h2⟩ := h
    exact ⟨a, xs, rfl, h1, h2⟩
  · obtain ⟨dx, gs, h1, h2, h3⟩ := h
    exact ⟨a, dx, gs, rfl, h1, h2, h3⟩
  · obtain ⟨kvs, h1, h2, h3⟩ := h
    exact ⟨a, kvs, rfl, h1, h2, h3⟩
theorem at_of {r : Rv} {d : D} {v : V} (s : Sub F1 H1) (l : SlOk G K F1 H1 σ ρ1) (p : RepR G K H F1 H1 σ ρ1 r v) (e : con ρ1 r = some d) : At G K F1 H1 d v := by
  cases r with
  | v d' => cases e; exact .of_rep s p
  | fr d' =>
    cases e
    obtain ⟨a, h1, h2, h3, h4, h5⟩ := p
    rw [h1]
    exact .of_own h3
  | bo i =>
    have p' : σ[i]? = some (some v) := p
    simp only [con] at e
    split at e
    · rename_i q c hq
      cases e
      obtain ⟨w, h1, h2⟩ := l.val i _ _ hq
      rw [p'] at h1; cases h1
      exact .of_rep s h2
    · rename_i q c hq
      cases e
      obtain ⟨a, h1, h2, h3⟩ := l.own i _ _ hq
      rw [p'] at h1; cases h1
      exact .of_own h3
    · rename_i q c hq
      cases e
      obtain ⟨a, h1, h2, h3, _⟩ := l.lent i _ _ hq
      rw [p'] at h1; cases h1
      exact .of_own h3
    · cases e
/-- what a call of values leaves: new objects -/
structure Grow (F H F' H' : Hp) : Prop where
  sub : Sub F' H'
  ff : Sub F F'
  hh : Sub H H'
  new : ∀ b, F' b ≠ none → F b ≠ none ∨ H b = none
theorem Grow.refl (s : Sub F H) : Grow F H F H := ⟨s, .refl, .refl, fun _ h => .inl h⟩
theorem Go.grow {τ : L2.St} (g : Go G K σ F H ρ τ F1 H1 ρ1) (w : Grow F1 H1 F2 H2) : Go G K σ F H ρ τ F2 H2 ρ1 := by
  refine g.trans ⟨w.sub, w.ff, fun b o _ h => w.hh b o h, fun b h z => ?_, fun b h => ?_, ⟨g.sl.len, fun i p d h => ?_, fun i p d h => ?_, fun i p d h => ?_, g.sl.one, fun i h => (g.sl.exc i h).imp id (ExF.mono w.ff)⟩, fun _ h => .inl h, fun i d h => ⟨rfl, d, h⟩, fun i d h => ⟨rfl, d, .inr h⟩, fun _ _ _ => Iff.rfl, fun _ _ _ _ => rfl⟩
  · obtain ⟨o, ho⟩ := Option.ne_none_iff_exists'.mp h
    rw [w.hh b o ho] at z; cases z
  · rcases w.new b h with z | z
    · exact .inl z
    · exact .inr (.inl z)
  · obtain ⟨v, h1, h2⟩ := g.sl.val i p d h
    exact ⟨v, h1, Rep.mono w.ff _ _ h2⟩
  · obtain ⟨a, h1, h2, h3⟩ := g.sl.own i p d h
    refine ⟨a, h1, ?_, (h3.heap fun o e => w.hh a o e).mono w.ff⟩
    cases q : F2 a with
    | none => rfl
    | some o =>
      rcases w.new a (by rw [q]; exact fun z => nomatch z) with z | z
      · exact absurd h2 z
      · exact absurd z h3.some_
  · obtain ⟨a, h1, h2, h3, h4⟩ := g.sl.lent i p d h
    refine ⟨a, h1, ?_, (h3.heap fun o e => w.hh a o e).mono w.ff, h4⟩
    cases q : F2 a with
    | none => rfl
    | some o =>
      rcases w.new a (by rw [q]; exact fun z => nomatch z) with z | z
      · exact absurd h2 z
      · exact absurd z h3.some_
/-- a value or a new object, made by values alone -/
def NewR (G : Glob) (K : PySem.W.Frag) (H F' H' : Hp) (r : Rv) (v : V) : Prop := match r with
  | .v d => Rep G K F' d v
  | .fr d => ∃ a, v = .ref a ∧ H a = none ∧ F' a = none ∧ OwnAt G K F' H' a d
  | .bo _ => False
theorem NewR.rep {τ : L2.St} {r : Rv} {v : V} (p : NewR G K H1 F2 H2 r v) (g : Go G K σ F H ρ τ F1 H1 ρ1) (w : Grow F1 H1 F2 H2) : RepR G K H F2 H2 τ ρ1 r v := by
  cases r with
  | v d => exact p
  | fr d =>
    obtain ⟨a, h1, h2, h3, h4⟩ := p
    refine ⟨a, h1, h3, h4, fun z => bo_some g.sl z h2, ?_⟩
    cases q : H a with
    | none => rfl
    | some o => exact absurd h2 (g.there a (by rw [q]; exact fun z => nomatch z))
  | bo i => exact p.elim
/-- an operation on two values -/
def Val2 (G : Glob) (K : PySem.W.Frag) (R : R2) (g : D → D → Option Rv) : Prop := ∀ {F H : Hp} {d e : D} {x y : V} {r : Rv} {Q : VK}, Sub F H → At G K F H d x → At G K F H e y → g d e = some r →
  (∀ v F' H', Grow F H F' H' → NewR G K H F' H' r v → Q v H') → R x y H Q
def Val1 (G : Glob) (K : PySem.W.Frag) (R : V → Hp → VK → Prop) (g : D → Option Rv) : Prop := ∀ {F H : Hp} {d : D} {x : V} {r : Rv} {Q : VK}, Sub F H → At G K F H d x → g d = some r →
  (∀ v F' H', Grow F H F' H' → NewR G K H F' H' r v → Q v H') → R x H Q
inductive Ats (G : Glob) (K : PySem.W.Frag) (F H : Hp) : List D → List V → Prop
  | nil : Ats G K F H [] []
  | cons {d : D} {v : V} {ds : List D} {vs : List V} : At G K F H d v → Ats G K F H ds vs → Ats G K F H (d :: ds) (v :: vs)
def ValN (G : Glob) (K : PySem.W.Frag) (R : List V → Hp → VK → Prop) (g : List D → Option Rv) : Prop := ∀ {F H : Hp} {ds : List D} {xs : List V} {r : Rv} {Q : VK}, Sub F H → Ats G K F H ds xs → g ds = some r →
  (∀ v F' H', Grow F H F' H' → NewR G K H F' H' r v → Q v H') → R xs H Q
end
/-! ### expressions -/
def eVar (i : Nat) : EV := fun ρ => match ρ[i]? with
  | some (some (.val _ d)) => .ok (.v d) ρ
  | some (some (.own _ _)) => .ok (.bo i) ρ
  | some (some (.lent _ _)) => .ok (.bo i) ρ
  | _ => .no
def eK (d : D) : EV := fun ρ => .ok (.v d) ρ
def cons2 (ρ : Ro) (r1 r2 : Rv) : Option (D × D) := match con ρ r1, con ρ r2 with
  | some a, some b => some (a, b)
  | _, _ => none
def ret (ρ : Ro) : Option Rv → XR Rv
  | some r => .ok r ρ
  | none => .no
def eOp2 (g : D → D → Option Rv) (fa fb : EV) : EV := fun ρ => (fa ρ).bind fun r1 ρ1 => (fb ρ1).bind fun r2 ρ2 => ret ρ2 ((cons2 ρ2 r1 r2).bind fun p => g p.1 p.2)
def eOp1 (g : D → Option Rv) (fa : EV) : EV := fun ρ => (fa ρ).bind fun r1 ρ1 => ret ρ1 ((con ρ1 r1).bind g)
section
variable {G : Glob} {X : Cx} {W : WX} {e a b : Expr} {fa fb : EV} {K : PySem.W.Frag} {σ : L2.St} {F H : Hp} {ρ : Ro} {Q : VK}
theorem PE.of {t t' : TE} (h : PE X e t) (i : ∀ σ H Q, t' σ H Q → t σ H Q) : PE X e t' := ⟨fun pins s σ H Q I q => h.run pins s σ H Q I (i σ H Q q)⟩
theorem PT.of {t t' : TT} (h : PT X e t) (i : ∀ σ H Q, t' σ H Q → t σ H Q) : PT X e t' := ⟨fun pins s σ H Q I q => h.run pins s σ H Q I (i σ H Q q)⟩
abbrev SimE (G : Glob) (X : Cx) (W : WX) (e : Expr) (f : EV) : Prop := PE X e (RdE G X.K W f)
theorem rd_var {i : Nat} (h : RdE G K W (eVar i) σ H Q) : tVar i σ H Q := by
  obtain ⟨ρ, F, s, l, o⟩ := h
  unfold eVar at o
  split at o
  · rename_i p d e
    obtain ⟨v, h1, h2⟩ := l.val i p d e
    exact ⟨v, h1, o.done (Go.refl s l) h2⟩
  · rename_i p d e
    obtain ⟨a, h1, h2⟩ := l.own i p d e
    exact ⟨.ref a, h1, o.done (Go.refl s l) (show σ[i]? = _ from h1)⟩
  · rename_i p d e
    obtain ⟨a, h1, h2⟩ := l.lent i p d e
    exact ⟨.ref a, h1, o.done (Go.refl s l) (show σ[i]? = _ from h1)⟩
  · exact o.elim
theorem rd_k {d : D} {v : V} (hr : ∀ F, Rep G K F d v) (h : RdE G K W (eK d) σ H Q) : tC v σ H Q := by
  obtain ⟨ρ, F, s, l, o⟩ := h
  exact o.done (Go.refl s l) (hr F)
theorem rd_op2 {R : R2} {g : D → D → Option Rv} (hv : Val2 G K R g) (h : RdE G K W (eOp2 g fa fb) σ H Q) : tOp R (RdE G K W fa) (RdE G K W fb) σ H Q := by
  obtain ⟨ρ, F, s, l, o⟩ := h
  refine Rd.mono ?_ (rd_bind oldE s l o)
  rintro x H1 ⟨r1, ρ1, F1, g1, p1, o1⟩
  refine Rd.mono ?_ (rd_bind oldE g1.sub g1.sl (o1.after oldE g1))
  rintro y H2 ⟨r2, ρ2, F2, g2, p2, o2⟩
  have p1' := p1.go g2
  unfold ret cons2 at o2
  cases e1 : con ρ2 r1 with
  | none => rw [e1] at o2; exact o2.elim
  | some d1 =>
    cases e2 : con ρ2 r2 with
    | none => rw [e1, e2] at o2; exact o2.elim
    | some d2 =>
      rw [e1, e2] at o2
      cases e3 : g d1 d2 with
      | none => simp only [Option.bind, e3] at o2; exact o2.elim
      | some r =>
        simp only [Option.bind, e3] at o2
        refine hv g2.sub (at_of g2.sub g2.sl p1' e1) (at_of g2.sub g2.sl p2 e2) e3 fun v F' H' w n => ?_
        exact o2.done (g2.grow w) (n.rep g2 w)
theorem rd_op1 {R : V → Hp → VK → Prop} {g : D → Option Rv} (hv : Val1 G K R g) (h : RdE G K W (eOp1 g fa) σ H Q) : tUn R (RdE G K W fa) σ H Q := by
  obtain ⟨ρ, F, s, l, o⟩ := h
  refine Rd.mono ?_ (rd_bind oldE s l o)
  rintro x H1 ⟨r1, ρ1, F1, g1, p1, o1⟩
  unfold ret at o1
  cases e1 : con ρ1 r1 with
  | none => rw [e1] at o1; exact o1.elim
  | some d1 =>
    rw [e1] at o1
    cases e3 : g d1 with
    | none => simp only [Option.bind, e3] at o1; exact o1.elim
    | some r =>
      simp only [Option.bind, e3] at o1
      refine hv g1.sub (at_of g1.sub g1.sl p1 e1) e3 fun v F' H' w n => ?_
      exact o1.done (g1.grow w) (n.rep g1 w)
end
end U
end part_U2

section part_U3
set_option Elab.async false
set_option linter.all false
set_option maxRecDepth 100000
set_option maxHeartbeats 1000000
/-! U3: operations on values. -/
namespace U
open PySem L2
abbrev big : Nat := 1000000
def gAdd : D → D → Option Rv
  | .int i, .int j => some (.v (.int (i + j)))
  | .str a, .str b => if a.length + b.length ≤ big then some (.v (.str (a ++ b))) else none
  | .lst a, .lst b => if a.length + b.length ≤ big then some (.fr (.lst (a ++ b))) else none
  | .tup a, .tup b => if a.length + b.length ≤ big then some (.v (.tup (a ++ b))) else none
  | _, _ => none
def gSub : D → D → Option Rv
  | .int i, .int j => some (.v (.int (i - j)))
  | _, _ => none
def gMul : D → D → Option Rv
  | .int i, .int j => if i.natAbs.log2 + j.natAbs.log2 < 1000000 then some (.v (.int (i * j))) else none
  | .lst a, .int k => if a.length * k.toNat ≤ big ∧ -(2 ^ 63) ≤ k ∧ k < 2 ^ 63 then some (.fr (.lst (List.replicate k.toNat a).flatten)) else none
  | _, _ => none
def gDiv : D → D → Option Rv
  | .int i, .int j => if 0 < j ∧ j.natAbs.log2 < 9000 then some (.v (.int (i / j))) else none
  | _, _ => none
def gMod : D → D → Option Rv
  | .int i, .int j => if 0 < j then some (.v (.int (i % j))) else none
  | _, _ => none
def gPow : D → D → Option Rv
  | .int i, .int j => if 0 ≤ j ∧ j ≤ 1000000 ∧ i.natAbs < 2 ^ 64 then some (.v (.int (i ^ j.toNat))) else none
  | _, _ => none
def gNeg : D → Option Rv
  | .int i => some (.v (.int (-i)))
  | _ => none
def gLt : D → D → Option Rv
  | .int i, .int j => some (.v (.bl (decide (i < j))))
  | _, _ => none
def gLe : D → D → Option Rv
  | .int i, .int j => some (.v (.bl (decide (i ≤ j))))
  | _, _ => none
def gGt : D → D → Option Rv
  | .int i, .int j => some (.v (.bl (decide (j < i))))
  | _, _ => none
def gGe : D → D → Option Rv
  | .int i, .int j => some (.v (.bl (decide (j ≤ i))))
  | _, _ => none
mutual
/-- plain data -/
def py : D → Option PyData
  | .non => some .none
  | .bl b => some (.bool b)
  | .int i => some (.int i)
  | .str s => some (.str s)
  | .tup xs => match pyL xs with
    | some l => some (.tuple l)
    | none => none
  | .lst xs => match pyL xs with
    | some l => some (.list l)
    | none => none
  | _ => none
def pyL : List D → Option (List PyData)
  | [] => some []
  | x :: xs => match py x, pyL xs with
    | some a, some l => some (a :: l)
    | _, _ => none
end
def gEqD (neg : Bool) (a b : D) : Option Rv := match py a, py b with
  | some p, some q => if SeqAt.shaped p && SeqAt.shaped q then some (.v (.bl (if neg then !PyData.eqv p q else PyData.eqv p q))) else none
  | _, _ => none
def gEqS (neg : Bool) : D → D → Option Rv
  | .str x, .str y => some (.v (.bl (if neg then !decide (x = y) else decide (x = y))))
  | _, _ => none
def gEq (neg : Bool) (a b : D) : Option Rv := match gEqS neg a b with
  | some r => some r
  | none => gEqD neg a b
def isNon : D → Bool
  | .non => true
  | _ => false
def gIsN (neg : Bool) : D → D → Option Rv
  | d, .non => some (.v (.bl (if neg then !isNon d else isNon d)))
  | _, _ => none
def flatD : D → Bool
  | .non | .bl _ | .int _ | .str _ => true
  | _ => false
def eqFlat : D → D → Bool
  | .non, .non => true
  | .bl a, .bl b => a == b
  | .bl a, .int j => (if a then 1 else 0) == j
  | .int i, .bl b => i == (if b then 1 else 0)
  | .int i, .int j => i == j
  | .str x, .str y => x == y
  | _, _ => false
def gIdx : D → D → Option Rv
  | .lst xs, .int i => (atI xs i).map .v
  | .tup xs, .int i => (atI xs i).map .v
  | .str z, .int i => if z.length ≤ big then (atI z.cps.toList i).map fun c => .v (.str ⟨#[c]⟩) else none
  | _, _ => none
def cutD (xs : List D) (lo hi : Option Int) : List D := (xs.drop (HT.sIx xs.length 0 lo)).take (HT.sIx xs.length xs.length hi - HT.sIx xs.length 0 lo)
def gSl (lo hi : Option Int) : D → Option Rv
  | .lst xs => some (.fr (.lst (cutD xs lo hi)))
  | .scr ns => some (.fr (.lst (cutD (ns.map D.int) lo hi)))
  | .tup xs => some (.v (.tup (cutD xs lo hi)))
  | .str z => if z.length ≤ big then some (.v (.str (cutS z lo hi))) else none
  | _ => none
theorem big_le {n : Nat} (h : n ≤ big) : n ≤ sizeLine := Nat.le_trans h (by decide)
section
variable {G : Glob} {K : PySem.W.Frag} {F F' H H' : Hp} {d e : D} {x y : V}
theorem RepL.len : ∀ {ds : List D} {xs : List V}, RepL G K F ds xs → ds.length = xs.length
  | [], xs, h => by unfold RepL at h; subst h; rfl
  | d :: ds, xs, h => by
    unfold RepL at h
    obtain ⟨x, r, rfl, _, h3⟩ := h
    simp only [List.length_cons, RepL.len h3]
theorem RepL.get : ∀ {ds : List D} {xs : List V} {i : Nat} {d : D}, RepL G K F ds xs → ds[i]? = some d → ∃ x, xs[i]? = some x ∧ Rep G K F d x
  | [], _, _, _, _, e => by simp at e
  | d :: ds, xs, i, c, h, e => by
    unfold RepL at h
    obtain ⟨x, r, rfl, h2, h3⟩ := h
    cases i with
    | zero => simp at e; subst e; exact ⟨x, rfl, h2⟩
    | succ i => exact RepL.get (ds := ds) (i := i) h3 (by simpa using e)
theorem RepL.append : ∀ {ds es : List D} {xs ys : List V}, RepL G K F ds xs → RepL G K F es ys → RepL G K F (ds ++ es) (xs ++ ys)
  | [], _, xs, _, h, h' => by unfold RepL at h; subst h; exact h'
  | d :: ds, es, xs, ys, h, h' => by
    unfold RepL at h
    obtain ⟨x, r, rfl, h2, h3⟩ := h
    show RepL G K F (d :: (ds ++ es)) _
    unfold RepL
    exact ⟨x, r ++ ys, rfl, h2, RepL.append h3 h'⟩
theorem RepL.take : ∀ (n : Nat) {ds : List D} {xs : List V}, RepL G K F ds xs → RepL G K F (ds.take n) (xs.take n)
  | 0, ds, xs, _ => by simp only [List.take_zero]; unfold RepL; rfl
  | n + 1, [], xs, h => by unfold RepL at h; subst h; simp only [List.take_nil]; unfold RepL; rfl
  | n + 1, d :: ds, xs, h => by
    unfold RepL at h
    obtain ⟨x, r, rfl, h2, h3⟩ := h
    simp only [List.take_succ_cons]
    unfold RepL
    exact ⟨x, _, rfl, h2, RepL.take n h3⟩
theorem RepL.drop : ∀ (n : Nat) {ds : List D} {xs : List V}, RepL G K F ds xs → RepL G K F (ds.drop n) (xs.drop n)
  | 0, ds, xs, h => h
  | n + 1, [], xs, h => by unfold RepL at h; subst h; simp only [List.drop_nil]; unfold RepL; rfl
  | n + 1, d :: ds, xs, h => by
    unfold RepL at h
    obtain ⟨x, r, rfl, h2, h3⟩ := h
    exact RepL.drop n h3
theorem RepL.set : ∀ (n : Nat) {ds : List D} {xs : List V} {d : D} {x : V}, RepL G K F ds xs → Rep G K F d x → RepL G K F (ds.set n d) (xs.set n x)
  | _, [], xs, _, _, h, _ => by unfold RepL at h; subst h; simp only [List.set_nil]; unfold RepL; rfl
  | 0, d :: ds, xs, _, _, h, h' => by
    unfold RepL at h
    obtain ⟨x, r, rfl, h2, h3⟩ := h
    simp only [List.set_cons_zero]
    unfold RepL
    exact ⟨_, _, rfl, h', h3⟩
  | n + 1, d :: ds, xs, _, _, h, h' => by
    unfold RepL at h
    obtain ⟨x, r, rfl, h2, h3⟩ := h
    simp only [List.set_cons_succ]
    unfold RepL
    exact ⟨_, _, rfl, h2, RepL.set n h3 h'⟩
theorem RepL.erase : ∀ (n : Nat) {ds : List D} {xs : List V}, RepL G K F ds xs → RepL G K F (ds.eraseIdx n) (xs.eraseIdx n)
  | _, [], xs, h => by unfold RepL at h; subst h; simp only [List.eraseIdx_nil]; unfold RepL; rfl
  | 0, d :: ds, xs, h => by
    unfold RepL at h
    obtain ⟨x, r, rfl, h2, h3⟩ := h
    exact h3
  | n + 1, d :: ds, xs, h => by
    unfold RepL at h
    obtain ⟨x, r, rfl, h2, h3⟩ := h
    simp only [List.eraseIdx_cons_succ]
    unfold RepL
    exact ⟨_, _, rfl, h2, RepL.erase n h3⟩
theorem RepL.repl {ds : List D} {xs : List V} (h : RepL G K F ds xs) : ∀ n : Nat, RepL G K F (List.replicate n ds).flatten (List.replicate n xs).flatten
  | 0 => by simp only [List.replicate_zero, List.flatten_nil]; unfold RepL; rfl
  | n + 1 => by
    simp only [List.replicate_succ, List.flatten_cons]
    exact h.append (RepL.repl h n)
theorem RepL.ints : ∀ ns : List Int, RepL G K F (ns.map D.int) (ns.map V.int)
  | [] => by unfold RepL; rfl
  | n :: ns => by
    show RepL G K F (D.int n :: ns.map D.int) _
    unfold RepL
    exact ⟨_, _, rfl, by unfold Rep; rfl, RepL.ints ns⟩
theorem RepL.ints_of : ∀ {ns : List Int} {xs : List V}, RepL G K F (ns.map D.int) xs → xs = ns.map V.int
  | [], xs, h => by unfold RepL at h; exact h
  | n :: ns, xs, h => by
    have h' : RepL G K F (D.int n :: ns.map D.int) xs := h
    unfold RepL at h'
    obtain ⟨x, r, rfl, h2, h3⟩ := h'
    unfold Rep at h2
    rw [h2, RepL.ints_of h3]; rfl
theorem Grow.alloc {a : Addr} {u : HO} (s : Sub F H) (n : H a = none) : Grow F H F (upd H a u) :=
  ⟨fun b o h => by rw [upd_ne (ne_of_none (s b o h) n)]; exact s b o h, .refl, fun b o h => by rw [upd_ne (ne_of_none h n)]; exact h, fun _ h => .inl h⟩
theorem free_of {a : Addr} (s : Sub F H) (n : H a = none) : F a = none := by
  cases q : F a with
  | none => rfl
  | some o => rw [s a o q] at n; cases n
theorem Grow.allocF {a : Addr} {u : HO} (s : Sub F H) (n : H a = none) : Grow F H (upd F a u) (upd H a u) := by
  have n1 := free_of s n
  refine ⟨fun b o h => ?_, fun b o h => ?_, fun b o h => ?_, fun b h => ?_⟩
  · by_cases hb : b = a
    · subst hb; rw [upd_same] at h ⊢; exact h
    · rw [upd_ne hb] at h ⊢; exact s b o h
  · rw [upd_ne (ne_of_none h n1)]; exact h
  · rw [upd_ne (ne_of_none h n)]; exact h
  · by_cases hb : b = a
    · rw [hb]; exact .inr n
    · rw [upd_ne hb] at h; exact .inl h
/-- a new list -/
theorem newL {a : Addr} {ds : List D} {xs : List V} (s : Sub F H) (n : H a = none) (h : RepL G K F ds xs) : NewR G K H F (upd H a (.lst xs)) (.fr (.lst ds)) (.ref a) :=
  ⟨a, rfl, n, free_of s n, xs, upd_same, h⟩
/-- a new tuple -/
theorem newT {a : Addr} {ds : List D} {xs : List V} (s : Sub F H) (n : H a = none) (h : RepL G K F ds xs) : NewR G K H (upd F a (.tup xs)) (upd H a (.tup xs)) (.v (.tup ds)) (.ref a) := by
  show Rep _ _ _ _ _
  unfold Rep
  exact ⟨a, xs, rfl, SqT.of upd_same, RepL.mono (Grow.allocF s n).ff _ _ h⟩
theorem at_int {i : Int} (h : At G K F H (.int i) x) : x = .int i := by unfold At at h; unfold Rep at h; exact h
theorem at_bl {b : Bool} (h : At G K F H (.bl b) x) : x = .bl b := by unfold At at h; unfold Rep at h; exact h
theorem at_str {z : Str} (h : At G K F H (.str z) x) : x = .str z := by unfold At at h; unfold Rep at h; exact h
theorem at_non (h : At G K F H .non x) : x = .non := by unfold At at h; unfold Rep at h; exact h
theorem at_ty {n : String} (h : At G K F H (.ty n) x) : x = .ty n := by unfold At at h; unfold Rep at h; exact h
theorem at_tup {ds : List D} (s : Sub F H) (h : At G K F H (.tup ds) x) : ∃ a xs, x = .ref a ∧ SqT K H a xs ∧ RepL G K F ds xs := by
  unfold At at h; unfold Rep at h
  obtain ⟨a, xs, h1, h2, h3⟩ := h
  exact ⟨a, xs, h1, s.sqT h2, h3⟩
theorem at_scr {ns : List Int} (s : Sub F H) (h : At G K F H (.scr ns) x) : ∃ a, x = .ref a ∧ SqL K H a (ns.map V.int) := by
  unfold At at h; unfold Rep at h
  obtain ⟨a, h1, h2⟩ := h
  exact ⟨a, h1, s.sqL h2⟩
theorem rep_of_tup {a : Addr} {ds : List D} {xs : List V} (h : SqT K F a xs) (r : RepL G K F ds xs) : Rep G K F (.tup ds) (.ref a) := by
  unfold Rep
  exact ⟨a, xs, rfl, h, r⟩
end
section
variable {G : Glob} {X : Cx}
theorem OpR.or {f : Value → Value → Sem Value} {r r' : R2} (h : OpR X f r) (h' : OpR X f r') : OpR X f (fun x y H Q => r x y H Q ∨ r' x y H Q) := by
  intro pins s σ H x y v u Q I rx ry q
  rcases q with q | q
  · exact h pins s σ H x y v u Q I rx ry q
  · exact h' pins s σ H x y v u Q I rx ry q
end
end U
end part_U3

section part_U4
set_option Elab.async false
set_option linter.all false
set_option maxRecDepth 100000
set_option maxHeartbeats 1000000
/-! U4: expressions of operators. -/
namespace U
open PySem L2
section
variable {G : Glob} {X : Cx} {W : WX} {e a b : Expr} {fa fb : EV} {K : PySem.W.Frag} {pos : Pos}
theorem Val2.or {R R' : R2} {g g' : D → D → Option Rv} (h : Val2 G K R g) (h' : Val2 G K R' g') {k : D → D → Option Rv} (hk : ∀ d e r, k d e = some r → g d e = some r ∨ g' d e = some r) : Val2 G K (fun x y H Q => R x y H Q ∨ R' x y H Q) k := by
  intro F H d e x y r Q s hd he hr q
  rcases hk d e r hr with z | z
  · exact .inl (h s hd he z q)
  · exact .inr (h' s hd he z q)
/-- both whole numbers -/
theorem val_I0 {g : D → D → Option Rv} {f : Int → Int → V} (fd : Int → Int → D) (hg : ∀ d e r, g d e = some r → ∃ i j, d = .int i ∧ e = .int j ∧ r = .v (fd i j)) (hr : ∀ F i j, Rep G K F (fd i j) (f i j)) : Val2 G K (rI0 f) g := by
  intro F H d e x y r Q s hd he h q
  obtain ⟨i, j, rfl, rfl, rfl⟩ := hg d e r h
  exact ⟨i, j, at_int hd, at_int he, q _ F H (.refl s) (hr F i j)⟩
theorem val_I {C : Int → Int → Prop} {g : D → D → Option Rv} {f : Int → Int → V} (fd : Int → Int → D) (hg : ∀ d e r, g d e = some r → ∃ i j, d = .int i ∧ e = .int j ∧ C i j ∧ r = .v (fd i j)) (hr : ∀ F i j, Rep G K F (fd i j) (f i j)) : Val2 G K (rI C f) g := by
  intro F H d e x y r Q s hd he h q
  obtain ⟨i, j, rfl, rfl, hc, rfl⟩ := hg d e r h
  exact ⟨i, j, at_int hd, at_int he, hc, q _ F H (.refl s) (hr F i j)⟩
def gAddI : D → D → Option Rv
  | .int i, .int j => some (.v (.int (i + j)))
  | _, _ => none
def gAddS : D → D → Option Rv
  | .str a, .str b => if a.length + b.length ≤ big then some (.v (.str (a ++ b))) else none
  | _, _ => none
def gAddL : D → D → Option Rv
  | .lst a, .lst b => if a.length + b.length ≤ big then some (.fr (.lst (a ++ b))) else none
  | _, _ => none
def gAddT : D → D → Option Rv
  | .tup a, .tup b => if a.length + b.length ≤ big then some (.v (.tup (a ++ b))) else none
  | _, _ => none
theorem gAdd_cases (d e : D) (r : Rv) (h : gAdd d e = some r) : gAddI d e = some r ∨ gAddS d e = some r ∨ gAddL d e = some r ∨ gAddT d e = some r := by
  unfold gAdd at h
  split at h <;> first | exact .inl h | exact .inr (.inl h) | exact .inr (.inr (.inl h)) | exact .inr (.inr (.inr h)) | cases h
theorem v_addI : Val2 G K (rI0 fun i j => .int (i + j)) gAddI := val_I0 (fun i j => .int (i + j)) (fun d e r h => by
  unfold gAddI at h
  split at h
  · cases h; exact ⟨_, _, rfl, rfl, rfl⟩
  · cases h) fun F i j => by unfold Rep; rfl
theorem v_addS : Val2 G K (fun x y H Q => ∃ i j, x = .str i ∧ y = .str j ∧ i.length + j.length ≤ sizeLine ∧ Q (.str (i ++ j)) H) gAddS := by
  intro F H d e x y r Q s hd he h q
  unfold gAddS at h
  split at h
  · split at h
    · cases h
      rename_i hz
      exact ⟨_, _, at_str hd, at_str he, big_le hz, q _ F H (.refl s) (by show Rep _ _ _ _ _; unfold Rep; rfl)⟩
    · cases h
  · cases h
theorem v_addL : Val2 G K rCat gAddL := by
  intro F H d e x y r Q s hd he h q
  unfold gAddL at h
  split at h
  · split at h
    · cases h
      rename_i hz
      obtain ⟨a, xs, rfl, h1, h2⟩ := hd
      obtain ⟨b, ys, rfl, h3, h4⟩ := he
      exact ⟨a, b, xs, ys, rfl, rfl, h1, h3, big_le (by rw [← h2.len, ← h4.len]; exact hz), fun p hp => q _ F _ (.alloc s hp) (newL s hp (h2.append h4))⟩
    · cases h
  · cases h
theorem v_addT : Val2 G K (rCatA K) gAddT := by
  intro F H d e x y r Q s hd he h q
  unfold gAddT at h
  split at h
  · rename_i ds es
    split at h
    · cases h
      rename_i hz
      have hd' := hd
      have he' := he
      obtain ⟨a, xs, rfl, h1, h2⟩ := at_tup s hd
      obtain ⟨b, ys, rfl, h3, h4⟩ := at_tup s he
      refine ⟨a, b, xs, ys, rfl, rfl, h1, h3, big_le (by rw [← h2.len, ← h4.len]; exact hz), fun e0 => ?_, fun _ e0 => ?_, fun _ _ p hp => q _ _ _ (.allocF s hp) (newT s hp (h2.append h4))⟩
      · subst e0
        have e1 : ds = [] := List.eq_nil_of_length_eq_zero (by rw [h2.len]; rfl)
        subst e1
        exact q _ F H (.refl s) (show Rep _ _ _ _ _ from he')
      · subst e0
        have e1 : es = [] := List.eq_nil_of_length_eq_zero (by rw [h4.len]; rfl)
        subst e1
        refine q _ F H (.refl s) ?_
        rw [List.append_nil]
        exact hd'
    · cases h
  · cases h
theorem se_add (ha : SimE G X W a fa) (hb : SimE G X W b fb) : SimE G X W (.BinOp a .Add b pos) (eOp2 gAdd fa fb) :=
  PE.of (pe_op (OpR.or op_add (OpR.or op_add_str (OpR.or op_cat op_catA))) ha hb) fun σ H Q h => rd_op2 (Val2.or v_addI (Val2.or v_addS (Val2.or v_addL v_addT (k := fun d e => (gAddL d e).or (gAddT d e)) fun d e r h => by
    cases h1 : gAddL d e with
    | some r' => rw [h1] at h; exact .inl h
    | none => rw [h1] at h; exact .inr h) (k := fun d e => (gAddS d e).or ((gAddL d e).or (gAddT d e))) fun d e r h => by
    cases h1 : gAddS d e with
    | some r' => rw [h1] at h; exact .inl h
    | none => rw [h1] at h; exact .inr h) (k := gAdd) fun d e r h => by
    unfold gAdd at h
    split at h
    · exact .inl h
    · right; simp only [gAddS, gAddL, gAddT]; split at h <;> simp_all
    · right; simp only [gAddS, gAddL, gAddT]; split at h <;> simp_all
    · right; simp only [gAddS, gAddL, gAddT]; split at h <;> simp_all
    · cases h) h
theorem se_sub (ha : SimE G X W a fa) (hb : SimE G X W b fb) : SimE G X W (.BinOp a .Sub b pos) (eOp2 gSub fa fb) :=
  PE.of (pe_op op_sub ha hb) fun σ H Q h => rd_op2 (val_I0 (fun i j => .int (i - j)) (fun d e r h => by
    unfold gSub at h
    split at h
    · cases h; exact ⟨_, _, rfl, rfl, rfl⟩
    · cases h) fun F i j => by unfold Rep; rfl) h
theorem se_mod (ha : SimE G X W a fa) (hb : SimE G X W b fb) : SimE G X W (.BinOp a .Mod b pos) (eOp2 gMod fa fb) :=
  PE.of (pe_op op_mod ha hb) fun σ H Q h => rd_op2 (val_I (fun i j => .int (i % j)) (fun d e r h => by
    unfold gMod at h
    split at h
    · split at h
      · cases h; rename_i hc; exact ⟨_, _, rfl, rfl, hc, rfl⟩
      · cases h
    · cases h) fun F i j => by unfold Rep; rfl) h
theorem se_div (ha : SimE G X W a fa) (hb : SimE G X W b fb) : SimE G X W (.BinOp a .FloorDiv b pos) (eOp2 gDiv fa fb) :=
  PE.of (pe_op op_fdivW ha hb) fun σ H Q h => rd_op2 (val_I (fun i j => .int (i / j)) (fun d e r h => by
    unfold gDiv at h
    split at h
    · split at h
      · cases h; rename_i hc; exact ⟨_, _, rfl, rfl, hc, rfl⟩
      · cases h
    · cases h) fun F i j => by unfold Rep; rfl) h
theorem se_pow (ha : SimE G X W a fa) (hb : SimE G X W b fb) : SimE G X W (.BinOp a .Pow b pos) (eOp2 gPow fa fb) :=
  PE.of (pe_op op_pow ha hb) fun σ H Q h => rd_op2 (val_I (fun i j => .int (i ^ j.toNat)) (fun d e r h => by
    unfold gPow at h
    split at h
    · split at h
      · cases h; rename_i hc; exact ⟨_, _, rfl, rfl, hc, rfl⟩
      · cases h
    · cases h) fun F i j => by unfold Rep; rfl) h
def gMulI : D → D → Option Rv
  | .int i, .int j => if i.natAbs.log2 + j.natAbs.log2 < 1000000 then some (.v (.int (i * j))) else none
  | _, _ => none
def gMulL : D → D → Option Rv
  | .lst a, .int k => if a.length * k.toNat ≤ big ∧ -(2 ^ 63) ≤ k ∧ k < 2 ^ 63 then some (.fr (.lst (List.replicate k.toNat a).flatten)) else none
  | _, _ => none
theorem v_mulL : Val2 G K rRep gMulL := by
  intro F H d e x y r Q s hd he h q
  unfold gMulL at h
  split at h
  · split at h
    · cases h
      rename_i hz
      obtain ⟨a, xs, rfl, h1, h2⟩ := hd
      refine ⟨a, _, xs, rfl, at_int he, h1, hz.2.1, hz.2.2, big_le (by rw [← h2.len]; exact hz.1), fun p hp => q _ F _ (.alloc s hp) (newL s hp (h2.repl _))⟩
    · cases h
  · cases h
theorem se_mul (ha : SimE G X W a fa) (hb : SimE G X W b fb) : SimE G X W (.BinOp a .Mult b pos) (eOp2 gMul fa fb) :=
  PE.of (pe_op (OpR.or op_mulW op_rep) ha hb) fun σ H Q h => rd_op2 (Val2.or (val_I (g := gMulI) (fun i j => .int (i * j)) (fun d e r h => by
    unfold gMulI at h
    split at h
    · split at h
      · cases h; rename_i hc; exact ⟨_, _, rfl, rfl, hc, rfl⟩
      · cases h
    · cases h) fun F i j => by unfold Rep; rfl) v_mulL (k := gMul) fun d e r h => by
    unfold gMul at h
    split at h
    · exact .inl h
    · exact .inr h
    · cases h) h
theorem se_neg (ha : SimE G X W a fa) : SimE G X W (.UnaryOp .USub a pos) (eOp1 gNeg fa) :=
  PE.of (pe_un un_neg ha) fun σ H Q h => rd_op1 (fun {F H d x r Q} s hd hr q => by
    unfold gNeg at hr
    split at hr
    · cases hr; exact ⟨_, at_int hd, q _ F H (.refl s) (by show Rep _ _ _ _ _; unfold Rep; rfl)⟩
    · cases hr) h
/-! ### comparisons -/
theorem val_cmpI {g : D → D → Option Rv} (f : Int → Int → Bool) (hg : ∀ d e r, g d e = some r → ∃ i j, d = .int i ∧ e = .int j ∧ r = .v (.bl (f i j))) : Val2 G K (rI0 fun i j => .bl (f i j)) g :=
  val_I0 (fun i j => .bl (f i j)) hg fun F i j => by unfold Rep; rfl
theorem v_lt : Val2 G K (rI0 fun i j => .bl (decide (i < j))) gLt := val_cmpI _ fun d e r h => by
  unfold gLt at h
  split at h
  · cases h; exact ⟨_, _, rfl, rfl, rfl⟩
  · cases h
theorem v_le : Val2 G K (rI0 fun i j => .bl (decide (i ≤ j))) gLe := val_cmpI _ fun d e r h => by
  unfold gLe at h
  split at h
  · cases h; exact ⟨_, _, rfl, rfl, rfl⟩
  · cases h
theorem v_gt : Val2 G K (rI0 fun i j => .bl (decide (j < i))) gGt := val_cmpI _ fun d e r h => by
  unfold gGt at h
  split at h
  · cases h; exact ⟨_, _, rfl, rfl, rfl⟩
  · cases h
theorem v_ge : Val2 G K (rI0 fun i j => .bl (decide (j ≤ i))) gGe := val_cmpI _ fun d e r h => by
  unfold gGe at h
  split at h
  · cases h; exact ⟨_, _, rfl, rfl, rfl⟩
  · cases h
mutual
theorem dp_of (s : Sub F H) : ∀ (d : D) (p : PyData) (x : V), py d = some p → Rep G K F d x → Dp K H x p
  | .non, p, x, e, h => by
    unfold py at e; cases e; unfold Rep at h; subst h; exact .non
  | .bl b, p, x, e, h => by
    unfold py at e; cases e; unfold Rep at h; subst h; exact .bl b
  | .int i, p, x, e, h => by
    unfold py at e; cases e; unfold Rep at h; subst h; exact .int i
  | .str z, p, x, e, h => by
    unfold py at e; cases e; unfold Rep at h; subst h; exact .str z
  | .tup ds, p, x, e, h => by
    unfold py at e
    cases e1 : pyL ds with
    | none => rw [e1] at e; cases e
    | some l =>
      rw [e1] at e; cases e
      unfold Rep at h
      obtain ⟨a, xs, rfl, h2, h3⟩ := h
      exact .tup (s.sqT h2) (dpL_of s ds l xs e1 h3)
  | .lst ds, p, x, e, h => by
    unfold py at e
    cases e1 : pyL ds with
    | none => rw [e1] at e; cases e
    | some l =>
      rw [e1] at e; cases e
      unfold Rep at h
      obtain ⟨a, xs, rfl, h2, h3⟩ := h
      exact .lst (SqL.of (s _ _ h2)) (dpL_of s ds l xs e1 h3)
  | .ty n, p, x, e, h => by unfold py at e; cases e
  | .fn n, p, x, e, h => by unfold py at e; cases e
  | .cl n, p, x, e, h => by unfold py at e; cases e
  | .scr n, p, x, e, h => by unfold py at e; cases e
  | .obj c ks ds, p, x, e, h => by unfold py at e; cases e
  | .dct ks ds, p, x, e, h => by unfold py at e; cases e
theorem dpL_of (s : Sub F H) : ∀ (ds : List D) (l : List PyData) (xs : List V), pyL ds = some l → RepL G K F ds xs → DpAll K H xs l
  | [], l, xs, e, h => by
    unfold pyL at e; cases e; unfold RepL at h; subst h; exact .nil
  | d :: ds, l, xs, e, h => by
    unfold pyL at e
    unfold RepL at h
    obtain ⟨x, r, rfl, h2, h3⟩ := h
    cases e1 : py d with
    | none => rw [e1] at e; cases e
    | some p =>
      cases e2 : pyL ds with
      | none => rw [e1, e2] at e; cases e
      | some l' =>
        rw [e1, e2] at e; cases e
        exact .cons (dp_of s d p x e1 h2) (dpL_of s ds l' r e2 h3)
end
theorem dp_at {F H : Hp} (s : Sub F H) {d : D} {p : PyData} {x : V} (e : py d = some p) (h : At G K F H d x) : Dp K H x p := by
  cases d with
  | lst ds =>
    unfold py at e
    cases e1 : pyL ds with
    | none => rw [e1] at e; cases e
    | some l =>
      rw [e1] at e; cases e
      obtain ⟨a, xs, rfl, h2, h3⟩ := h
      exact .lst (SqL.of h2) (dpL_of s ds l xs e1 h3)
  | obj c ks ds => unfold py at e; cases e
  | dct ks ds => unfold py at e; cases e
  | _ => exact dp_of (G := G) s _ _ _ e h
theorem v_eqD (neg : Bool) : Val2 G K (if neg then rNeD K else rEqD K) (gEqD neg) := by
  intro F H d e x y r Q s hd he h q
  unfold gEqD at h
  split at h
  · rename_i p p' e1 e2
    split at h
    · cases h
      rename_i hs
      obtain ⟨hs1, hs2⟩ := Bool.and_eq_true_iff.mp hs
      cases neg with
      | false => exact ⟨p, p', dp_at s e1 hd, dp_at s e2 he, hs1, hs2, q _ F H (.refl s) (by show Rep _ _ _ _ _; unfold Rep; rfl)⟩
      | true => exact ⟨p, p', dp_at s e1 hd, dp_at s e2 he, hs1, hs2, q _ F H (.refl s) (by show Rep _ _ _ _ _; unfold Rep; rfl)⟩
    · cases h
  · cases h
theorem dec_strV {x y : Str} : decide (V.str x = V.str y) = decide (x = y) := by
  rw [Bool.eq_iff_iff]
  simp
theorem v_eqS (neg : Bool) : Val2 G K (if neg then rNe else rEq) (gEqS neg) := by
  intro F H d e x y r Q s hd he h q
  unfold gEqS at h
  split at h
  · rename_i a b
    cases h
    have hd' : Rep G K F (.str a) x := hd
    have he' : Rep G K F (.str b) y := he
    unfold Rep at hd' he'
    subst hd'; subst he'
    cases neg with
    | false => exact ⟨rfl, q _ F H (.refl s) (by show Rep _ _ _ _ _; unfold Rep; rw [dec_strV]; rfl)⟩
    | true => exact ⟨rfl, q _ F H (.refl s) (by show Rep _ _ _ _ _; unfold Rep; rw [dec_strV]; rfl)⟩
  · cases h
theorem v_eq (neg : Bool) : Val2 G K (fun x y H Q => (if neg then rNe else rEq) x y H Q ∨ (if neg then rNeD K else rEqD K) x y H Q) (gEq neg) := Val2.or (v_eqS neg) (v_eqD neg) fun d e r h => by
  unfold gEq at h
  cases e1 : gEqS neg d e with
  | none => rw [e1] at h; exact .inr h
  | some r' => rw [e1] at h; exact .inl h
theorem at_isNon {F H : Hp} {d : D} {x : V} (h : At G K F H d x) : decide (x = .non) = isNon d := by
  cases d <;> simp only [At] at h <;> first
    | (unfold Rep at h; subst h; rfl)
    | (unfold Rep at h; obtain ⟨_, _, rfl, _⟩ := h; rfl)
    | (unfold Rep at h; obtain ⟨_, rfl, _⟩ := h; rfl)
    | (obtain ⟨_, _, rfl, _⟩ := h; rfl)
    | (obtain ⟨_, _, _, rfl, _⟩ := h; rfl)
theorem v_isN : Val2 G K (fun x y H Q => y = .non ∧ Q (.bl (decide (x = .non))) H) (gIsN false) := by
  intro F H d e x y r Q s hd he h q
  unfold gIsN at h
  split at h
  · cases h
    exact ⟨at_non he, q _ F H (.refl s) (by show Rep _ _ _ _ _; unfold Rep; rw [at_isNon hd]; rfl)⟩
  · cases h
theorem v_notN : Val2 G K (fun x y H Q => y = .non ∧ Q (.bl (!decide (x = .non))) H) (gIsN true) := by
  intro F H d e x y r Q s hd he h q
  unfold gIsN at h
  split at h
  · cases h
    exact ⟨at_non he, q _ F H (.refl s) (by show Rep _ _ _ _ _; unfold Rep; rw [at_isNon hd]; rfl)⟩
  · cases h
/-- an operator of comparison, by its values -/
structure CmpOk (G : Glob) (X : Cx) (op : CmpOp) (g : D → D → Option Rv) : Prop where
  ex : ∃ R, OpR X (compareOp op) R ∧ Val2 G X.K R g
theorem c_lt : CmpOk G X .Lt gLt := ⟨_, op_lt, v_lt⟩
theorem c_le : CmpOk G X .LtE gLe := ⟨_, op_le, v_le⟩
theorem c_gt : CmpOk G X .Gt gGt := ⟨_, op_gt, v_gt⟩
theorem c_ge : CmpOk G X .GtE gGe := ⟨_, op_ge, v_ge⟩
theorem c_eq (hu : X.A.units + 64 < cLine) : CmpOk G X .Eq (gEq false) := ⟨_, op_eq.or (op_eqD hu), v_eq false⟩
theorem c_ne (hu : X.A.units + 64 < cLine) : CmpOk G X .NotEq (gEq true) := ⟨_, op_ne.or (op_neD hu), v_eq true⟩
theorem c_isN : CmpOk G X .Is (gIsN false) := ⟨_, op_isN, v_isN⟩
theorem c_notN : CmpOk G X .IsNot (gIsN true) := ⟨_, op_notN, v_notN⟩
theorem se_cmp {op : CmpOp} {g : D → D → Option Rv} (c : CmpOk G X op g) (ha : SimE G X W a fa) (hb : SimE G X W b fb) (hm : behindInMarks op b = false := by first | exact nomark _ | rfl) : SimE G X W (.Compare a [op] [b] pos) (eOp2 g fa fb) := by
  obtain ⟨R, h1, h2⟩ := c.ex
  exact PE.of (pe_cmpR h1 ha hb hm) fun σ H Q h => rd_op2 h2 h
end
end U
end part_U4

section part_U5
set_option Elab.async false
set_option linter.all false
set_option maxRecDepth 100000
set_option maxHeartbeats 1000000
/-! U5: tests, logic, argument lists, displays, items, parts, attributes, calls of built-ins. -/
namespace U
open PySem L2
def truD : D → Option Bool
  | .non => some false
  | .bl b => some b
  | .int i => some (i != 0)
  | .str z => if z.length ≤ big then some ((z.length : Int) != 0) else none
  | .lst xs => some (!xs.isEmpty)
  | .tup xs => some (!xs.isEmpty)
  | _ => none
abbrev TV := Ro → XR Bool
def retB (ρ : Ro) : Option Bool → XR Bool
  | some b => .ok b ρ
  | none => .no
def tTru (fa : EV) : TV := fun ρ => (fa ρ).bind fun r ρ1 => retB ρ1 ((con ρ1 r).bind truD)
def blOf : Option D → Option Bool
  | some (.bl b) => some b
  | _ => none
def tVal (fa : EV) : TV := fun ρ => (fa ρ).bind fun r ρ1 => retB ρ1 (blOf (con ρ1 r))
def tNotU (f : TV) : TV := fun ρ => (f ρ).bind fun b ρ1 => .ok (!b) ρ1
def tAndU (f g : TV) : TV := fun ρ => (f ρ).bind fun b ρ1 => if b = true then g ρ1 else .ok false ρ1
def tOrU (f g : TV) : TV := fun ρ => (f ρ).bind fun b ρ1 => if b = true then .ok true ρ1 else g ρ1
def eAnd (fa fb : EV) : EV := fun ρ => (fa ρ).bind fun r ρ1 => match (con ρ1 r).bind truD with
  | some true => fb ρ1
  | some false => .ok r ρ1
  | none => .no
def eOr (fa fb : EV) : EV := fun ρ => (fa ρ).bind fun r ρ1 => match (con ρ1 r).bind truD with
  | some true => .ok r ρ1
  | some false => fb ρ1
  | none => .no
def eNot (fa : EV) : EV := fun ρ => (fa ρ).bind fun r ρ1 => match (con ρ1 r).bind truD with
  | some b => .ok (.v (.bl (!b))) ρ1
  | none => .no
def eIf (ft : TV) (fa fb : EV) : EV := fun ρ => (ft ρ).bind fun b ρ1 => if b = true then fa ρ1 else fb ρ1
def eChain (g g' : D → D → Option Rv) (fa fb fc : EV) : EV := fun ρ => (fa ρ).bind fun r1 ρ1 => (fb ρ1).bind fun r2 ρ2 =>
  match (cons2 ρ2 r1 r2).bind fun p => g p.1 p.2 with
  | some (.v (.bl true)) => (fc ρ2).bind fun r3 ρ3 => ret ρ3 ((cons2 ρ3 r2 r3).bind fun p => g' p.1 p.2)
  | some (.v (.bl false)) => .ok (.v (.bl false)) ρ2
  | _ => .no
def aNil : AV := fun ρ => .ok [] ρ
def aCons (f : EV) (as : AV) : AV := fun ρ => (f ρ).bind fun r ρ1 => (as ρ1).bind fun rs ρ2 => .ok (r :: rs) ρ2
def seqD : D → Option (List D)
  | .lst xs => some xs
  | .tup xs => some xs
  | _ => none
def aStar (f : EV) (as : AV) : AV := fun ρ => (f ρ).bind fun r ρ1 => match (con ρ1 r).bind seqD with
  | some ds => (as ρ1).bind fun rs ρ2 => .ok (ds.map .v ++ rs) ρ2
  | none => .no
def eTup (as : AV) : EV := fun ρ => (as ρ).bind fun rs ρ1 => match escAll rs ρ1 with
  | some (ds, ρ2) => if ds.length ≤ big then .ok (.v (.tup ds)) ρ2 else .no
  | none => .no
def eLst (as : AV) : EV := fun ρ => (as ρ).bind fun rs ρ1 => match escAll rs ρ1 with
  | some (ds, ρ2) => if ds.length ≤ big then .ok (.fr (.lst ds)) ρ2 else .no
  | none => .no
def intOf : Option D → Option Int
  | some (.int i) => some i
  | _ => none
abbrev OV := Ro → XR (Option Int)
def oNone : OV := fun ρ => .ok none ρ
def oSome (f : EV) : OV := fun ρ => (f ρ).bind fun r ρ1 => match intOf (con ρ1 r) with
  | some i => .ok (some i) ρ1
  | none => .no
def eSl (fe : EV) (fl fh : OV) : EV := fun ρ => (fe ρ).bind fun r ρ1 => (fl ρ1).bind fun lo ρ2 => (fh ρ2).bind fun hi ρ3 => ret ρ3 ((con ρ3 r).bind (gSl lo hi))
def fld (f : Str) : List Str → List D → Option D
  | k :: ks, d :: ds => if f = k then some d else fld f ks ds
  | _, _ => none
/-- an attribute of an instance of one of the classes cs -/
def gFld (cs : List Nat) (f : Str) : D → Option Rv
  | .obj c ks vs => if c ∈ cs then (fld f ks vs).map .v else none
  | _ => none
/-- a call of values -/
def eCallV (g : List D → Option Rv) (as : AV) : EV := fun ρ => (as ρ).bind fun rs ρ1 => ret ρ1 ((rs.mapM (con ρ1)).bind g)
section
variable {G : Glob} {X : Cx} {W : WX} {e a b c : Expr} {es : List Expr} {fa fb fc : EV} {as : AV} {ft fu : TV} {K : PySem.W.Frag} {pos : Pos} {σ : L2.St} {F H H0 F1 H1 : Hp} {ρ ρ1 : Ro} {rest : List Expr}
abbrev SimT (G : Glob) (X : Cx) (W : WX) (e : Expr) (f : TV) : Prop := PT X e (RdT G X.K W f)
abbrev SimA (G : Glob) (X : Cx) (W : WX) (es : List Expr) (f : AV) : Prop := PA X es (RdA G X.K W f)
theorem tru_of {d : D} {x : V} {k : Bool} (s : Sub F H) (h : At G K F H d x) (e : truD d = some k) : TruV K x H k := by
  cases d with
  | non => cases at_non h; cases e; rfl
  | bl b => cases at_bl h; cases e; rfl
  | int i => cases at_int h; cases e; rfl
  | str z =>
    cases at_str h
    have e' : (if z.length ≤ big then some ((z.length : Int) != 0) else none) = some k := e
    by_cases hz : z.length ≤ big
    · rw [if_pos hz] at e'; cases e'; exact ⟨big_le hz, rfl⟩
    · rw [if_neg hz] at e'; cases e'
  | lst xs =>
    obtain ⟨a, ys, rfl, h1, h2⟩ := h
    cases e
    refine .inl ⟨ys, SqL.of h1, ?_⟩
    have := h2.len
    cases xs <;> cases ys <;> simp_all
  | tup xs =>
    obtain ⟨a, ys, rfl, h1, h2⟩ := at_tup s h
    cases e
    refine .inr (.inl ⟨ys, h1, ?_⟩)
    have := h2.len
    cases xs <;> cases ys <;> simp_all
  | _ => cases e
/-- the state behind one step, with what it tells -/
theorem rd1 {α β γ δ : Type} {Rp : RpT α β} {Rq : RpT γ δ} (hO : OldR Rq) {f : Ro → XR α} {g : α → Ro → XR γ} {Q : δ → Hp → Prop} {T : β → Hp → Prop} (h : Rd G K W Rq (fun ρ => (f ρ).bind g) σ H Q)
    (k : ∀ {F : Hp} {ρ : Ro} (r : α) (v : β) (ρ1 : Ro) (F1 H1 : Hp), SlOk G K F H σ ρ → Go G K σ F H ρ σ F1 H1 ρ1 → Rp H F1 H1 σ ρ1 r v → Out G K W Rq σ F H ρ (g r ρ1) Q → T v H1) : Rd G K W Rp f σ H T := by
  obtain ⟨ρ, F, s, l, o⟩ := h
  refine Rd.mono ?_ (rd_bind hO s l o)
  rintro v H1 ⟨r, ρ1, F1, g1, p1, o1⟩
  exact k r v ρ1 F1 H1 l g1 p1 o1
theorem Out.rd {α β : Type} {Rp : RpT α β} {Q : β → Hp → Prop} {f : Ro → XR α} (hO : OldR Rp) (g : Go G K σ F H ρ σ F1 H1 ρ1) (o : Out G K W Rp σ F H ρ (f ρ1) Q) : Rd G K W Rp f σ H1 Q := ⟨ρ1, F1, g.sub, g.sl, o.after hO g⟩
theorem Out.no_ {α β : Type} {Rp : RpT α β} {Q : β → Hp → Prop} {P : Prop} (o : Out G K W Rp σ F H ρ .no Q) : P := o.elim
theorem st_tru (ha : SimE G X W a fa) (he : ∀ whole, isTrue a X.env whole = (do let v ← whole; standAt a.pos; holding [v] (truthy v)) := by intro _; rfl) : SimT G X W a (tTru fa) :=
  PT.of (pt_truth ha he) fun σ H Q h => rd1 (f := fa) oldB h fun r v ρ1 F1 H1 l g p o => by
    unfold retB at o
    cases e1 : con ρ1 r with
    | none => rw [e1] at o; exact o.no_
    | some d =>
      rw [e1] at o
      simp only [Option.bind] at o
      cases e2 : truD d with
      | none => rw [e2] at o; exact o.no_
      | some k =>
        rw [e2] at o
        exact ⟨k, tru_of g.sub (at_of g.sub g.sl p e1) e2, o.done g rfl⟩
theorem blOf_at {o : Option D} {k : Bool} (h : blOf o = some k) : o = some (.bl k) := by
  unfold blOf at h
  split at h
  · cases h; rfl
  · cases h
/-- a comparison as a test -/
theorem rd_val {f : EV} {σ : L2.St} {H : Hp} {Q : Bool → Hp → Prop} (h : RdT G K W (tVal f) σ H Q) : RdE G K W f σ H fun x H' => ∃ k, x = .bl k ∧ Q k H' :=
  rd1 (f := f) oldB h fun r v ρ1 F1 H1 l g p o => by
    unfold retB at o
    cases e1 : blOf (con ρ1 r) with
    | none => rw [e1] at o; exact o.no_
    | some k =>
      rw [e1] at o
      exact ⟨k, at_bl (at_of g.sub g.sl p (blOf_at e1)), o.done g rfl⟩
theorem st_cmp {op : CmpOp} {g : D → D → Option Rv} (c : CmpOk G X op g) (ha : SimE G X W a fa) (hb : SimE G X W b fb) (hm : behindInMarks op b = false := by first | exact nomark _ | rfl) : SimT G X W (.Compare a [op] [b] pos) (tVal (eOp2 g fa fb)) := by
  obtain ⟨R, h1, h2⟩ := c.ex
  refine PT.of (pt_cmpR h1 ha hb hm) fun σ H Q h => ?_
  exact rd_op2 h2 (rd_val h)
theorem st_not (ha : SimT G X W a ft) : SimT G X W (.UnaryOp .Not a pos) (tNotU ft) :=
  PT.of (pt_not ha) fun σ H Q h => rd1 (f := ft) oldB h fun r v ρ1 F1 H1 l g p o => by
    have p' : r = v := p
    subst p'
    exact o.done g rfl
abbrev SimW (G : Glob) (X : Cx) (W : WX) (e : Expr) (f : TV) : Prop := PW X e (RdT G X.K W f)
theorem PW.of {t t' : TT} (h : PW X e t) (i : ∀ σ H Q, t' σ H Q → t σ H Q) : PW X e t' := ⟨fun wh pins s σ H Q I q => h.run wh pins s σ H Q I (i σ H Q q)⟩
theorem sw_and1 (ha : SimT G X W a ft) : SimW G X W (.BoolOp .And [a] pos) ft := pw_and1 ha
theorem sw_or1 (ha : SimT G X W a ft) : SimW G X W (.BoolOp .Or [a] pos) ft := pw_or1 ha
theorem sw_and (ha : SimT G X W a ft) (hb : SimW G X W (.BoolOp .And (b :: rest) pos) fu) : SimW G X W (.BoolOp .And (a :: b :: rest) pos) (tAndU ft fu) :=
  PW.of (pw_and ha hb) fun σ H Q h => rd1 (f := ft) oldB h fun r v ρ1 F1 H1 l g p o => by
    have p' : r = v := p
    subst p'
    cases r with
    | true =>
      rw [if_pos rfl] at o ⊢
      exact o.rd oldB g
    | false =>
      rw [if_neg (by decide)] at o ⊢
      exact o.done g rfl
theorem sw_or (ha : SimT G X W a ft) (hb : SimW G X W (.BoolOp .Or (b :: rest) pos) fu) : SimW G X W (.BoolOp .Or (a :: b :: rest) pos) (tOrU ft fu) :=
  PW.of (pw_or ha hb) fun σ H Q h => rd1 (f := ft) oldB h fun r v ρ1 F1 H1 l g p o => by
    have p' : r = v := p
    subst p'
    cases r with
    | true =>
      rw [if_pos rfl] at o ⊢
      exact o.done g rfl
    | false =>
      rw [if_neg (by decide)] at o ⊢
      exact o.rd oldB g
theorem st_w (h : SimW G X W e ft) : SimT G X W e ft := h.pt
theorem con_truD {r : Rv} {k : Bool} (h : (con ρ r).bind truD = some k) : ∃ d, con ρ r = some d ∧ truD d = some k := by
  cases e : con ρ r with
  | none => rw [e] at h; cases h
  | some d => rw [e] at h; exact ⟨d, rfl, h⟩
theorem se_and (ha : SimE G X W a fa) (hb : SimE G X W (.BoolOp .And (b :: rest) pos) fb) : SimE G X W (.BoolOp .And (a :: b :: rest) pos) (eAnd fa fb) :=
  PE.of (pe_andT ha hb) fun σ H Q h => rd1 (f := fa) oldE h fun r v ρ1 F1 H1 l g p o => by
    cases e : (con ρ1 r).bind truD with
    | none => simp only [e] at o; exact o.no_
    | some k =>
      simp only [e] at o
      obtain ⟨d, e1, e2⟩ := con_truD e
      refine ⟨k, tru_of g.sub (at_of g.sub g.sl p e1) e2, ?_⟩
      cases k with
      | true =>
        rw [if_pos rfl]
        exact o.rd oldE g
      | false =>
        rw [if_neg (by decide)]
        exact o.done g p
theorem se_or (ha : SimE G X W a fa) (hb : SimE G X W (.BoolOp .Or (b :: rest) pos) fb) : SimE G X W (.BoolOp .Or (a :: b :: rest) pos) (eOr fa fb) :=
  PE.of (pe_orT ha hb) fun σ H Q h => rd1 (f := fa) oldE h fun r v ρ1 F1 H1 l g p o => by
    cases e : (con ρ1 r).bind truD with
    | none => simp only [e] at o; exact o.no_
    | some k =>
      simp only [e] at o
      obtain ⟨d, e1, e2⟩ := con_truD e
      refine ⟨k, tru_of g.sub (at_of g.sub g.sl p e1) e2, ?_⟩
      cases k with
      | true =>
        rw [if_pos rfl]
        exact o.done g p
      | false =>
        rw [if_neg (by decide)]
        exact o.rd oldE g
theorem se_one {op : BoolOp} (ha : SimE G X W a fa) : SimE G X W (.BoolOp op [a] pos) fa := pe_one ha
theorem se_not (ha : SimE G X W a fa) : SimE G X W (.UnaryOp .Not a pos) (eNot fa) :=
  PE.of (pe_notT ha) fun σ H Q h => rd1 (f := fa) oldE h fun r v ρ1 F1 H1 l g p o => by
    cases e : (con ρ1 r).bind truD with
    | none => simp only [e] at o; exact o.no_
    | some k =>
      simp only [e] at o
      obtain ⟨d, e1, e2⟩ := con_truD e
      exact ⟨k, tru_of g.sub (at_of g.sub g.sl p e1) e2, o.done g (by show Rep _ _ _ _ _; unfold Rep; rfl)⟩
theorem se_if (hc : SimT G X W c ft) (ha : SimE G X W a fa) (hb : SimE G X W b fb) : SimE G X W (.IfExp c a b pos) (eIf ft fa fb) :=
  PE.of (pe_ifExp hc ha hb) fun σ H Q h => rd1 (f := ft) oldE h fun r v ρ1 F1 H1 l g p o => by
    have p' : r = v := p
    subst p'
    cases r with
    | true =>
      rw [if_pos rfl] at o ⊢
      exact o.rd oldE g
    | false =>
      rw [if_neg (by decide)] at o ⊢
      exact o.rd oldE g
theorem cons2_some {r1 r2 : Rv} {f : D → D → Option Rv} {r : Rv} (h : ((cons2 ρ r1 r2).bind fun p => f p.1 p.2) = some r) : ∃ d1 d2, con ρ r1 = some d1 ∧ con ρ r2 = some d2 ∧ f d1 d2 = some r := by
  unfold cons2 at h
  cases e1 : con ρ r1 with
  | none => rw [e1] at h; cases h
  | some d1 =>
    cases e2 : con ρ r2 with
    | none => rw [e1, e2] at h; cases h
    | some d2 => rw [e1, e2] at h; exact ⟨d1, d2, rfl, rfl, h⟩
theorem se_chain {op op' : CmpOp} {g g' : D → D → Option Rv} (k : CmpOk G X op g) (k' : CmpOk G X op' g') (ha : SimE G X W a fa) (hb : SimE G X W b fb) (hc : SimE G X W c fc) (hm : lastMarks [op, op'] [b, c] = false := by with_unfolding_all rfl) :
    SimE G X W (.Compare a [op, op'] [b, c] pos) (eChain g g' fa fb fc) := by
  obtain ⟨R, h1, h2⟩ := k.ex
  obtain ⟨R', h1', h2'⟩ := k'.ex
  refine PE.of (pe_chain h1 h1' ha hb hc hm) fun σ H Q h => ?_
  obtain ⟨ρ, F, s, l, o⟩ := h
  refine Rd.mono ?_ (rd_bind oldE s l o)
  rintro x H1 ⟨r1, ρ1, F1, g1, p1, o1⟩
  refine Rd.mono ?_ (rd_bind oldE g1.sub g1.sl (o1.after oldE g1))
  rintro y H2 ⟨r2, ρ2, F2, g2, p2, o2⟩
  have p1' := p1.go g2
  cases e : (cons2 ρ2 r1 r2).bind fun p => g p.1 p.2 with
  | none => simp only [e] at o2; exact o2.no_
  | some r =>
    obtain ⟨d1, d2, e1, e2, e3⟩ := cons2_some e
    have a1 := at_of g2.sub g2.sl p1' e1
    have a2 := at_of g2.sub g2.sl p2 e2
    refine h2 g2.sub a1 a2 e3 fun v F' H' w n => ?_
    have g3 := g2.grow w
    have bl : ∃ k, r = .v (.bl k) := by
      cases r with
      | v d => cases d <;> simp only [e] at o2 <;> first | exact ⟨_, rfl⟩ | exact o2.no_
      | fr d => simp only [e] at o2; exact o2.no_
      | bo i => simp only [e] at o2; exact o2.no_
    obtain ⟨k, rfl⟩ := bl
    have n' : v = .bl k := by
      have n2 : Rep G X.K F' (.bl k) v := n
      unfold Rep at n2; exact n2
    refine ⟨k, n', ?_⟩
    cases k with
    | false =>
      rw [if_neg (by decide)]
      simp only [e] at o2
      exact o2.done g3 (by show Rep _ _ _ _ _; unfold Rep; rfl)
    | true =>
      rw [if_pos rfl]
      simp only [e] at o2
      refine Rd.mono ?_ (rd_bind oldE g3.sub g3.sl (o2.after oldE g3))
      rintro z H4 ⟨r3, ρ3, F3, g4, p3, o3⟩
      have p2' := (p2.go (show Go G X.K σ F2 H2 ρ2 σ F' H' ρ2 from (Go.refl g2.sub g2.sl).grow w)).go g4
      cases e' : (cons2 ρ3 r2 r3).bind fun p => g' p.1 p.2 with
      | none => simp only [e'] at o3; exact o3.no_
      | some r' =>
        obtain ⟨d3, d4, e4, e5, e6⟩ := cons2_some e'
        simp only [e', ret] at o3
        exact h2' g4.sub (at_of g4.sub g4.sl p2' e4) (at_of g4.sub g4.sl p3 e5) e6 fun v F' H' w n => o3.done (g4.grow w) (n.rep g4 w)
/-! ### argument lists -/
theorem reprs_fr {rs : List Rv} {vs : List V} (h : RepRs G K H0 F H σ ρ rs vs) : ∀ {i : Nat} {d : D} {v : V}, rs[i]? = some (.fr d) → vs[i]? = some v → ∃ a, v = .ref a ∧ H0 a = none := by
  induction h with
  | nil => intro i d v h; simp at h
  | cons x y z ih =>
    intro i d v h1 h2
    cases i with
    | zero =>
      simp at h1 h2; subst h1; subst h2
      obtain ⟨a, q1, _, _, _, q2⟩ := x
      exact ⟨a, q1, q2⟩
    | succ i => exact ih (by simpa using h1) (by simpa using h2)
theorem sa_nil : SimA G X W [] aNil := ⟨fun pos pins s σ H Q I h => (pa_nil (X := X)).run pos pins s σ H Q I (by
  obtain ⟨ρ, F, s, l, o⟩ := h
  exact o.done (Go.refl s l) .nil)⟩
theorem PA.of {t t' : TA} (h : PA X es t) (i : ∀ σ H Q, t' σ H Q → t σ H Q) : PA X es t' := ⟨fun pos pins s σ H Q I q => h.run pos pins s σ H Q I (i σ H Q q)⟩
/-- one step more: f from the state behind g1, the outcome as seen from the start -/
theorem rd_more {α β γ δ : Type} {Rp : RpT α β} {Rq : RpT γ δ} {f : Ro → XR α} {g : α → Ro → XR γ} {Q : δ → Hp → Prop} (g1 : Go G K σ F H ρ σ F1 H1 ρ1) (h : Out G K W Rq σ F H ρ ((f ρ1).bind g) Q) :
    Rd G K W Rp f σ H1 fun x H2 => ∃ r ρ2 F2, Go G K σ F1 H1 ρ1 σ F2 H2 ρ2 ∧ Rp H1 F2 H2 σ ρ2 r x ∧ Out G K W Rq σ F H ρ (g r ρ2) Q := by
  refine ⟨ρ1, F1, g1.sub, g1.sl, ?_⟩
  cases e : f ρ1 with
  | ok r ρ2 =>
    rw [e] at h
    exact fun v F2 H2 g2 p2 => ⟨r, ρ2, F2, g2, p2, h⟩
  | ex e' ρ2 =>
    rw [e] at h
    exact fun cls dx F2 H2 g2 p2 => h cls dx F2 H2 (g1.trans g2) p2
  | no =>
    rw [e] at h
    exact h
theorem sa_cons (ha : SimE G X W a fa) (hr : SimA G X W es as) (hs : starEach (a :: es) X.env = (false, eval a X.env) :: starEach es X.env := by rfl) : SimA G X W (a :: es) (aCons fa as) :=
  PA.of (pa_cons ha hr hs) fun σ H Q h => by
    obtain ⟨ρ, F, s, l, o⟩ := h
    refine Rd.mono ?_ (rd_bind oldA s l o)
    rintro x H1 ⟨r1, ρ1, F1, g1, p1, o1⟩
    refine Rd.mono ?_ (rd_more g1 o1)
    rintro xs H2 ⟨rs, ρ2, F2, g2, p2, o2⟩
    refine o2.done (g1.trans g2) (.cons (p1.go g2) (p2.older g1.there) fun d hd i e h1 h2 => ?_)
    subst hd
    obtain ⟨a, q1, q2⟩ := reprs_fr p2 h1 h2
    obtain ⟨b, q3, _, q4, _⟩ := p1
    rw [q1] at q3; cases q3
    exact q4.some_ q2
theorem reprs_vals : ∀ {ds : List D} {xs : List V} {rs : List Rv} {vs : List V}, RepL G K F ds xs → RepRs G K H0 F H σ ρ rs vs → RepRs G K H0 F H σ ρ (ds.map .v ++ rs) (xs ++ vs)
  | [], xs, rs, vs, h, h' => by unfold RepL at h; subst h; exact h'
  | d :: ds, xs, rs, vs, h, h' => by
    unfold RepL at h
    obtain ⟨x, r, rfl, h2, h3⟩ := h
    exact .cons h2 (reprs_vals h3 h') fun _ z => by cases z
theorem at_seq {d : D} {ds : List D} {x : V} (s : Sub F H) (h : At G K F H d x) (e : seqD d = some ds) : ∃ p xs, x = .ref p ∧ (SqT K H p xs ∨ SqL K H p xs) ∧ RepL G K F ds xs := by
  cases d with
  | lst ys =>
    cases e
    obtain ⟨a, xs, h1, h2, h3⟩ := h
    exact ⟨a, xs, h1, .inr (SqL.of h2), h3⟩
  | tup ys =>
    cases e
    obtain ⟨a, xs, h1, h2, h3⟩ := at_tup s h
    exact ⟨a, xs, h1, .inl h2, h3⟩
  | _ => cases e
theorem sa_star {p : Pos} (ha : SimE G X W a fa) (hr : SimA G X W es as) (hs : starEach (.Starred a p :: es) X.env = (true, eval a X.env) :: starEach es X.env := by rfl) : SimA G X W (.Starred a p :: es) (aStar fa as) :=
  PA.of (StX.pa_star ha hr hs) fun σ H Q h => by
    obtain ⟨ρ, F, s, l, o⟩ := h
    refine Rd.mono ?_ (rd_bind oldA s l o)
    rintro x H1 ⟨r1, ρ1, F1, g1, p1, o1⟩
    cases e1 : con ρ1 r1 with
    | none => simp only [e1, Option.bind] at o1; exact o1.no_
    | some d =>
      simp only [e1, Option.bind] at o1
      cases e2 : seqD d with
      | none => simp only [e2] at o1; exact o1.no_
      | some ds =>
        simp only [e2] at o1
        obtain ⟨q, xs, h1, h2, h3⟩ := at_seq g1.sub (at_of g1.sub g1.sl p1 e1) e2
        refine ⟨q, xs, h1, h2, ?_⟩
        refine Rd.mono ?_ (rd_more g1 o1)
        rintro ys H2 ⟨rs, ρ2, F2, g2, p2, o2⟩
        exact o2.done (g1.trans g2) (reprs_vals (RepL.mono g2.ff _ _ h3) (p2.older g1.there))
/-! ### displays -/
theorem se_tup {k : Nat} (h : SimA G X W es as) : SimE G X W (.Tuple es k pos) (eTup as) :=
  PE.of (pe_tup h) fun σ H Q h => rd1 (f := as) oldE h fun rs vs ρ1 F1 H1 l g p o => by
    cases e : escAll rs ρ1 with
    | none => simp only [e] at o; exact o.no_
    | some q =>
      obtain ⟨ds, ρ2⟩ := q
      simp only [e] at o
      by_cases hz : ds.length ≤ big
      · rw [if_pos hz] at o
        obtain ⟨F2, g2, p2, _⟩ := escAll_go l g p e
        refine ⟨big_le (by rw [← p2.len]; exact hz), fun a ha => o.done (g2.allocF ha) (newT g2.sub ha p2)⟩
      · rw [if_neg hz] at o; exact o.no_
theorem se_lst (h : SimA G X W es as) : SimE G X W (.List es pos) (eLst as) :=
  PE.of (pe_lst h) fun σ H Q h => rd1 (f := as) oldE h fun rs vs ρ1 F1 H1 l g p o => by
    cases e : escAll rs ρ1 with
    | none => simp only [e] at o; exact o.no_
    | some q =>
      obtain ⟨ds, ρ2⟩ := q
      simp only [e] at o
      by_cases hz : ds.length ≤ big
      · rw [if_pos hz] at o
        obtain ⟨F2, g2, p2, _⟩ := escAll_go l g p e
        refine ⟨big_le (by rw [← p2.len]; exact hz), fun a ha => o.done (g2.alloc ha) ((newL g2.sub ha p2).rep g2 (.alloc g2.sub ha))⟩
      · rw [if_neg hz] at o; exact o.no_
/-! ### items, parts, attributes -/
theorem atI_rep {ds : List D} {xs : List V} {i : Int} {d : D} (h : RepL G K F ds xs) (e : atI ds i = some d) : ∃ x, atI xs i = some x ∧ Rep G K F d x := by
  unfold atI at e ⊢
  rw [h.len] at e
  cases e1 : ixN xs.length i with
  | none => rw [e1] at e; cases e
  | some j =>
    rw [e1] at e
    exact h.get (by simpa using e)
theorem v_idx : Val2 G K (rIx K) gIdx := by
  intro F H d e x y r Q s hd he h q
  unfold gIdx at h
  split at h
  · obtain ⟨a, xs, rfl, h1, h2⟩ := hd
    rename_i i
    cases e1 : atI _ i with
    | none => rw [e1] at h; cases h
    | some c =>
      rw [e1] at h; cases h
      obtain ⟨v, h3, h4⟩ := atI_rep h2 e1
      exact .inl ⟨a, xs, i, v, rfl, at_int he, SqL.of h1, h3, q _ F H (.refl s) h4⟩
  · obtain ⟨a, xs, rfl, h1, h2⟩ := at_tup s hd
    rename_i i
    cases e1 : atI _ i with
    | none => rw [e1] at h; cases h
    | some c =>
      rw [e1] at h; cases h
      obtain ⟨v, h3, h4⟩ := atI_rep h2 e1
      exact .inr (.inl ⟨a, xs, i, v, rfl, at_int he, h1, h3, q _ F H (.refl s) h4⟩)
  · rename_i z i
    split at h
    · rename_i hz
      cases e1 : atI z.cps.toList i with
      | none => rw [e1] at h; cases h
      | some c =>
        rw [e1] at h; cases h
        exact .inr (.inr ⟨z, i, c, at_str hd, at_int he, big_le hz, e1, q _ F H (.refl s) (by show Rep _ _ _ _ _; unfold Rep; rfl)⟩)
    · cases h
  · cases h
theorem se_idx (ha : SimE G X W a fa) (hb : SimE G X W b fb) (hs : PlainIx b := by exact fun _ _ => rfl) : SimE G X W (.Subscript a b pos) (eOp2 gIdx fa fb) :=
  PE.of (pe_ix ix_seq ha hb hs) fun σ H Q h => rd_op2 v_idx h
/-- a part's bound -/
structure SimO (G : Glob) (X : Cx) (W : WX) (e : Option Expr) (f : OV) : Prop where
  ex : ∃ t : TO, PO X e t ∧ ∀ σ H1 (F H F1 : Hp) (ρ ρ1 : Ro) {γ δ : Type} (Rq : RpT γ δ) (g : Option Int → Ro → XR γ) (Q : δ → Hp → Prop) (T : Option Int → Hp → Prop), Go G X.K σ F H ρ σ F1 H1 ρ1 → Out G X.K W Rq σ F H ρ ((f ρ1).bind g) Q →
    (∀ u H2 ρ2 F2, Go G X.K σ F1 H1 ρ1 σ F2 H2 ρ2 → Out G X.K W Rq σ F H ρ (g u ρ2) Q → T u H2) → t σ H1 T
theorem so_none : SimO G X W none oNone := ⟨_, po_none, fun σ H1 F H F1 ρ ρ1 γ δ Rq g Q T g1 o k => k none H1 ρ1 F1 (Go.refl g1.sub g1.sl) o⟩
theorem so_some (ha : SimE G X W a fa) : SimO G X W (some a) (oSome fa) := ⟨_, po_some ha, fun σ H1 F H F1 ρ ρ1 γ δ Rq g Q T g1 o k => by
  have o' : Out G X.K W Rq σ F H ρ ((fa ρ1).bind fun r ρ2 => (match intOf (con ρ2 r) with
    | some i => (XR.ok (some i) ρ2 : XR (Option Int))
    | none => XR.no).bind g) Q := by
    unfold oSome at o
    cases e : fa ρ1 <;> rw [e] at o <;> exact o
  refine Rd.mono ?_ (rd_more g1 o')
  rintro x H2 ⟨r, ρ2, F2, g2, p2, o2⟩
  cases e : intOf (con ρ2 r) with
  | none => simp only [e] at o2; exact o2.no_
  | some i =>
    simp only [e] at o2
    have e' : con ρ2 r = some (.int i) := by
      unfold intOf at e
      split at e
      · cases e; assumption
      · cases e
    exact ⟨i, at_int (at_of g2.sub g2.sl p2 e'), k _ _ ρ2 F2 g2 o2⟩⟩
theorem cut_rep {ds : List D} {xs : List V} (h : RepL G K F ds xs) (lo hi : Option Int) : RepL G K F (cutD ds lo hi) (cutV xs lo hi) := by
  unfold cutD cutV
  rw [h.len]
  exact (h.drop _).take _
theorem cut_all {ds : List D} {lo hi : Option Int} (h : HT.sIx ds.length 0 lo = 0 ∧ HT.sIx ds.length ds.length hi = ds.length) : cutD ds lo hi = ds := by
  unfold cutD
  rw [h.1, h.2]
  simp
theorem cutV_ints (ns : List Int) (lo hi : Option Int) : cutV (ns.map V.int) lo hi = (((ns.drop (HT.sIx ns.length 0 lo)).take (HT.sIx ns.length ns.length hi - HT.sIx ns.length 0 lo))).map V.int := by
  unfold cutV
  rw [List.length_map, List.map_take, List.map_drop]
theorem se_sl {p2 : Pos} {fl fh : OV} {lo hi : Option Expr} (ha : SimE G X W a fa) (hl : SimO G X W lo fl) (hh : SimO G X W hi fh) : SimE G X W (.Subscript a (.Slice lo hi none p2) pos) (eSl fa fl fh) := by
  obtain ⟨tl, pl, kl⟩ := hl.ex
  obtain ⟨th, ph, kh⟩ := hh.ex
  refine PE.of (pe_slice (SlR.or sl_list (SlR.or sl_tupA sl_str)) ha pl ph) fun σ H Q h => ?_
  obtain ⟨ρ, F, s, l, o⟩ := h
  refine Rd.mono ?_ (rd_bind oldE s l o)
  rintro x H1 ⟨r1, ρ1, F1, g1, p1, o1⟩
  refine kl σ H1 F H F1 ρ ρ1 _ _ Q _ g1 o1 fun lo H2 ρ2 F2 g2 o2 => ?_
  refine kh σ H2 F H F2 ρ ρ2 _ _ Q _ (g1.trans g2) o2 fun hi H3 ρ3 F3 g3 o3 => ?_
  have gg := (g1.trans g2).trans g3
  have p3 := (p1.go g2).go g3
  cases e : (con ρ3 r1).bind (gSl lo hi) with
  | none => simp only [e, ret] at o3; exact o3.no_
  | some r =>
    simp only [e, ret] at o3
    cases e1 : con ρ3 r1 with
    | none => rw [e1] at e; cases e
    | some d =>
      rw [e1] at e
      have e : gSl lo hi d = some r := e
      have a1 := at_of gg.sub gg.sl p3 e1
      cases d with
      | lst ds =>
        cases e
        obtain ⟨a, xs, rfl, h1, h2⟩ := a1
        exact .inl ⟨a, xs, rfl, SqL.of h1, fun p hp => o3.done (gg.alloc hp) ((newL gg.sub hp (cut_rep h2 lo hi)).rep gg (.alloc gg.sub hp))⟩
      | scr ns =>
        cases e
        obtain ⟨a, rfl, h1⟩ := at_scr gg.sub a1
        refine .inl ⟨a, _, rfl, h1, fun p hp => o3.done (gg.alloc hp) ((newL gg.sub hp ?_).rep gg (.alloc gg.sub hp))⟩
        have := cut_rep (G := G) (K := X.K) (F := F3) (RepL.ints ns) lo hi
        exact this
      | tup ds =>
        cases e
        obtain ⟨a, xs, rfl, h1, h2⟩ := at_tup gg.sub a1
        refine .inr (.inl ⟨a, xs, rfl, h1, fun hz => ?_, fun _ p hp => o3.done (gg.allocF hp) (newT gg.sub hp (cut_rep h2 lo hi))⟩)
        refine o3.done gg ?_
        rw [← h2.len] at hz
        show Rep _ _ _ _ _
        rw [cut_all hz]
        exact a1
      | str z =>
        simp only [gSl] at e
        by_cases hz : z.length ≤ big
        · rw [if_pos hz] at e
          cases e
          exact .inr (.inr ⟨z, at_str a1, big_le hz, o3.done gg (by show Rep _ _ _ _ _; unfold Rep; rfl)⟩)
        · rw [if_neg hz] at e; cases e
      | _ => cases e
theorem fld_rep {f : Str} : ∀ {ks : List Str} {ds : List D} {gs : List (Str × V)} {d : D}, gs.map (·.1) = ks → RepL G K F ds (gs.map (·.2)) → fld f ks ds = some d → ∃ v, gs.lookup f = some v ∧ Rep G K F d v
  | [], ds, gs, d, _, _, e => by unfold fld at e; cases e
  | k :: ks, [], gs, d, _, _, e => by unfold fld at e; cases e
  | k :: ks, c :: ds, [], d, h, _, e => by cases h
  | k :: ks, c :: ds, (k', v) :: gs, d, h, h', e => by
    simp only [List.map_cons, List.cons.injEq] at h
    obtain ⟨rfl, h2⟩ := h
    simp only [List.map_cons] at h'
    unfold RepL at h'
    obtain ⟨x, r, h3, h4, h5⟩ := h'
    simp only [List.cons.injEq] at h3
    obtain ⟨rfl, rfl⟩ := h3
    unfold fld at e
    by_cases z : f = k'
    · rw [if_pos z] at e; cases e
      refine ⟨v, ?_, h4⟩
      subst z
      simp [List.lookup]
    · rw [if_neg z] at e
      obtain ⟨w, q1, q2⟩ := fld_rep h2 h5 e
      refine ⟨w, ?_, q2⟩
      have z' : (f == k') = false := by simpa using z
      simp [List.lookup, z', q1]
theorem se_fld {f : Str} {cs : List Nat} (ha : SimE G X W a fa) (hc : ∀ c ∈ cs, Cls X.K (G.ca c) ∧ NoAttr X.K (G.ca c) f) (hb : attributeBase a f X.env (eval a X.env) = eval a X.env := by rfl) : SimE G X W (.Attribute a f pos) (eOp1 (gFld cs f) fa) :=
  PE.of (pe_fld ha hb) fun σ H Q h => rd1 (f := fa) oldE h fun r v ρ1 F1 H1 l g p o => by
    cases e1 : con ρ1 r with
    | none => simp only [e1, Option.bind, ret] at o; exact o.no_
    | some d =>
      simp only [e1, Option.bind] at o
      cases e2 : gFld cs f d with
      | none => simp only [e2, ret] at o; exact o.no_
      | some r' =>
        simp only [e2, ret] at o
        have a1 := at_of g.sub g.sl p e1
        cases d with
        | obj c ks ds =>
          obtain ⟨a, dx, gs, rfl, h1, h2, h3⟩ := a1
          simp only [gFld] at e2
          by_cases hm : c ∈ cs
          · rw [if_pos hm] at e2
            cases e3 : fld f ks ds with
            | none => rw [e3] at e2; cases e2
            | some d' =>
              rw [e3] at e2; cases e2
              obtain ⟨w, q1, q2⟩ := fld_rep h2 h3 e3
              exact ⟨a, _, dx, gs, w, rfl, h1, (hc c hm).1, (hc c hm).2, q1, o.done g q2⟩
          · rw [if_neg hm] at e2; cases e2
        | _ => cases e2
/-! ### a call of a built-in, by values -/
theorem mapM_ats {rs : List Rv} {vs : List V} {ds : List D} (g : Go G K σ F H ρ σ F1 H1 ρ1) (p : RepRs G K H0 F1 H1 σ ρ1 rs vs) (e : rs.mapM (con ρ1) = some ds) : Ats G K F1 H1 ds vs := by
  induction p generalizing ds with
  | nil => simp at e; subst e; exact .nil
  | cons x y z ih =>
    rename_i r v rs vs
    rw [List.mapM_cons] at e
    cases e1 : con ρ1 r with
    | none => rw [e1] at e; cases e
    | some d =>
      rw [e1] at e
      cases e2 : rs.mapM (con ρ1) with
      | none => rw [e2] at e; cases e
      | some ds' =>
        rw [e2] at e; cases e
        exact .cons (at_of (H := H0) g.sub g.sl x e1) (ih e2)
theorem rd_callV {R : List V → Hp → VK → Prop} {g : List D → Option Rv} (hv : ValN G K R g) {σ : L2.St} {H : Hp} {Q : VK} (h : RdE G K W (eCallV g as) σ H Q) : tCB R (RdA G K W as) σ H Q :=
  rd1 (f := as) oldE h fun rs vs ρ1 F1 H1 l g1 p o => by
    cases e1 : rs.mapM (con ρ1) with
    | none => simp only [e1, Option.bind, ret] at o; exact o.no_
    | some ds =>
      simp only [e1, Option.bind] at o
      cases e2 : g ds with
      | none => simp only [e2, ret] at o; exact o.no_
      | some r =>
        simp only [e2, ret] at o
        exact hv g1.sub (mapM_ats g1 p e1) e2 fun v F' H' w n => o.done (g1.grow w) (n.rep g1 w)
/-- a built-in function, a built-in class -/
structure CallOk (G : Glob) (X : Cx) (f : Value) (g : List D → Option Rv) : Prop where
  ex : ∃ R, CallR X f R ∧ ValN G X.K R g
theorem se_callB {x : Str} {id : String} {p : Pos} {g : List D → Option Rv} (k : CallOk G X (.builtin id) g) (hm : X.mg x = none) (ha : SimA G X W (e :: es) as) (hg : Gl X x := by rfl) (hv : bootBuiltins x = some (.builtin id) := by decide +kernel) (hn : x ≠ "__name__" := by decide) (hdb : (x == ("__debug__" : Str)) = false := by decide)
    (he : starEach (e :: es) X.env = (false, eval e X.env) :: starEach es X.env := by rfl) (hpl : (backTo pos (starEach es X.env)).any (·.1) = false := by rfl) : SimE G X W (.Call (.Name x p) (e :: es) [] pos) (eCallV g as) := by
  obtain ⟨R, h1, h2⟩ := k.ex
  exact PE.of (pe_callB h1 hg hm hv ha hn hdb he hpl) fun σ H Q h => rd_callV h2 h
theorem se_callTy {x : Str} {T : String} {p : Pos} {g : List D → Option Rv} (k : CallOk G X (.type T) g) (hm : X.mg x = none) (ha : SimA G X W (e :: es) as) (hg : Gl X x := by rfl) (hv : bootBuiltins x = some (.type T) := by decide +kernel) (hn : x ≠ "__name__" := by decide) (hdb : (x == ("__debug__" : Str)) = false := by decide)
    (he : starEach (e :: es) X.env = (false, eval e X.env) :: starEach es X.env := by rfl) (hpl : (backTo pos (starEach es X.env)).any (·.1) = false := by rfl) : SimE G X W (.Call (.Name x p) (e :: es) [] pos) (eCallV g as) := by
  obtain ⟨R, h1, h2⟩ := k.ex
  exact PE.of (pe_callTy h1 hg hm hv ha hn hdb he hpl) fun σ H Q h => rd_callV h2 h
end
end U
end part_U5

section part_U6
set_option Elab.async false
set_option linter.all false
set_option maxRecDepth 100000
set_option maxHeartbeats 1000000
/-! U6: statements. -/
namespace U
open PySem L2
inductive SR where
  | nx (ρ : Ro) | rt (r : Rv) (ρ : Ro) | bk (ρ : Ro) | ct (ρ : Ro) | ex (e : D) (ρ : Ro) | no
abbrev SV := Ro → SR
def OutS (G : Glob) (K : PySem.W.Frag) (W : WX) (σ : L2.St) (F H : Hp) (ρ : Ro) (o : SR) (Dn : Ends) : Prop := match o with
  | .nx ρ' => ∀ σ' F' H', Go G K σ F H ρ σ' F' H' ρ' → Dn.nx σ' H'
  | .bk ρ' => ∀ σ' F' H', Go G K σ F H ρ σ' F' H' ρ' → Dn.bk σ' H'
  | .ct ρ' => ∀ σ' F' H', Go G K σ F H ρ σ' F' H' ρ' → Dn.ct σ' H'
  | .rt r ρ' => ∀ v σ' F' H', Go G K σ F H ρ σ' F' H' ρ' → RepR G K H F' H' σ' ρ' r v → Dn.rt v H'
  | .ex e ρ' => ∀ cls dx σ' F' H', Go G K σ F H ρ σ' F' H' ρ' → ExAt G K F' cls dx e → W cls (some dx) σ' H'
  | .no => False
def RdS (G : Glob) (K : PySem.W.Frag) (W : WX) (f : SV) : TS := fun Dn σ H => ∃ ρ F, Sub F H ∧ SlOk G K F H σ ρ ∧ OutS G K W σ F H ρ (f ρ) Dn
/-- an expression's outcome, then a statement's -/
def XR.then {α : Type} (x : XR α) (k : α → Ro → SR) : SR := match x with
  | .ok a ρ => k a ρ | .ex e ρ => .ex e ρ | .no => .no
def SR.seq (x : SR) (k : SV) : SR := match x with
  | .nx ρ => k ρ | y => y
def sNext : SV := fun ρ => .nx ρ
def sSeq (f g : SV) : SV := fun ρ => (f ρ).seq g
def sExpr (f : EV) : SV := fun ρ => (f ρ).then fun _ ρ1 => .nx ρ1
def sRet (f : EV) : SV := fun ρ => (f ρ).then fun r ρ1 => .rt r ρ1
def sRetN : SV := fun ρ => .rt (.v .non) ρ
def sBrk : SV := fun ρ => .bk ρ
def sCnt : SV := fun ρ => .ct ρ
def sIf (t : TV) (f g : SV) : SV := fun ρ => (t ρ).then fun b ρ1 => if b = true then f ρ1 else g ρ1
/-- whether a slot may be given another value -/
def freeSlot (ρ : Ro) (i : Nat) : Bool := match ρ[i]? with
  | some none => true
  | some (some (.val p _)) => !p
  | some (some (.own p _)) => !p
  | some (some (.lent _ _)) => false
  | some (some .exc) => false
  | none => false
def asgn (i : Nat) (r : Rv) (ρ : Ro) : Option Ro := match r with
  | .v d => if freeSlot ρ i then some (ρ.set i (some (.val false d))) else none
  | .fr d => if freeSlot ρ i then some (ρ.set i (some (.own false d))) else none
  | .bo j => match esc (.bo j) ρ with
    | some (d, ρ1) => if freeSlot ρ1 i then some (ρ1.set i (some (.val false d))) else none
    | none => none
def nxO : Option Ro → SR
  | some ρ => .nx ρ
  | none => .no
def sAsg (i : Nat) (f : EV) : SV := fun ρ => (f ρ).then fun r ρ1 => nxO (asgn i r ρ1)
def asgns : List Nat → List Rv → Ro → Option Ro
  | [], [], ρ => some ρ
  | i :: is, r :: rs, ρ => match asgn i r ρ with
    | some ρ1 => asgns is rs ρ1
    | none => none
  | _, _, _ => none
section
variable {G : Glob} {X : Cx} {W : WX} {e a b c : Expr} {es : List Expr} {st : Stmt} {sts : List Stmt} {fa fb fc : EV} {as : AV} {ft fu : TV} {f g : SV} {K : PySem.W.Frag} {pos : Pos} {σ σ1 σ' : L2.St} {F H H0 F1 H1 F' H' : Hp} {ρ ρ1 ρ' : Ro} {o : SR} {Dn Dm : Ends}
theorem OutS.after (g : Go G K σ F H ρ σ1 F1 H1 ρ1) (h : OutS G K W σ F H ρ o Dn) : OutS G K W σ1 F1 H1 ρ1 o Dn := by
  cases o with
  | nx ρ' => exact fun σ' F' H' g1 => h σ' F' H' (g.trans g1)
  | bk ρ' => exact fun σ' F' H' g1 => h σ' F' H' (g.trans g1)
  | ct ρ' => exact fun σ' F' H' g1 => h σ' F' H' (g.trans g1)
  | rt r ρ' => exact fun v σ' F' H' g1 p => h v σ' F' H' (g.trans g1) (p.older g.there)
  | ex e ρ' => exact fun cls dx σ' F' H' g1 p => h cls dx σ' F' H' (g.trans g1) p
  | no => exact h
theorem OutS.mono (h : OutS G K W σ F H ρ o Dn) (hn : ∀ σ H, Dn.nx σ H → Dm.nx σ H) (hr : ∀ v H, Dn.rt v H → Dm.rt v H) (hb : ∀ σ H, Dn.bk σ H → Dm.bk σ H) (hc : ∀ σ H, Dn.ct σ H → Dm.ct σ H) : OutS G K W σ F H ρ o Dm := by
  cases o with
  | nx ρ' => exact fun σ' F' H' g1 => hn _ _ (h σ' F' H' g1)
  | bk ρ' => exact fun σ' F' H' g1 => hb _ _ (h σ' F' H' g1)
  | ct ρ' => exact fun σ' F' H' g1 => hc _ _ (h σ' F' H' g1)
  | rt r ρ' => exact fun v σ' F' H' g1 p => hr _ _ (h v σ' F' H' g1 p)
  | ex e ρ' => exact h
  | no => exact h
abbrev SimS (G : Glob) (X : Cx) (W : WX) (st : Stmt) (f : SV) : Prop := PS X st (RdS G X.K W f)
abbrev SimB (G : Glob) (X : Cx) (W : WX) (sts : List Stmt) (f : SV) : Prop := PSs X sts (RdS G X.K W f)
theorem PS.of {t t' : TS} (h : PS X st t) (i : ∀ Dn σ H, t' Dn σ H → t Dn σ H) : PS X st t' := ⟨fun pins s σ H Dn I q => h.run pins s σ H Dn I (i Dn σ H q)⟩
theorem PSs.of {t t' : TS} (h : PSs X sts t) (i : ∀ Dn σ H, t' Dn σ H → t Dn σ H) : PSs X sts t' := ⟨fun pins s σ H Dn I q => h.run pins s σ H Dn I (i Dn σ H q)⟩
/-- an expression first -/
theorem rds1 {α β : Type} {Rp : RpT α β} {f : Ro → XR α} {k : α → Ro → SR} {T : β → Hp → Prop} (h : RdS G K W (fun ρ => (f ρ).then k) Dn σ H)
    (m : ∀ {F : Hp} {ρ : Ro} (r : α) (v : β) (ρ1 : Ro) (F1 H1 : Hp), SlOk G K F H σ ρ → Go G K σ F H ρ σ F1 H1 ρ1 → Rp H F1 H1 σ ρ1 r v → OutS G K W σ F H ρ (k r ρ1) Dn → T v H1) : Rd G K W Rp f σ H T := by
  obtain ⟨ρ, F, s, l, o⟩ := h
  refine ⟨ρ, F, s, l, ?_⟩
  cases e : f ρ with
  | ok r ρ1 =>
    simp only [e] at o
    exact fun v F1 H1 g1 p1 => m r v ρ1 F1 H1 l g1 p1 o
  | ex e' ρ1 =>
    simp only [e] at o
    exact fun cls dx F1 H1 g1 p1 => o cls dx σ F1 H1 g1 p1
  | no =>
    simp only [e] at o
    exact o
theorem rds_more {α β : Type} {Rp : RpT α β} {f : Ro → XR α} {k : α → Ro → SR} (g1 : Go G K σ F H ρ σ1 F1 H1 ρ1) (h : OutS G K W σ F H ρ ((f ρ1).then k) Dn) :
    Rd G K W Rp f σ1 H1 fun x H2 => ∃ r ρ2 F2, Go G K σ1 F1 H1 ρ1 σ1 F2 H2 ρ2 ∧ Rp H1 F2 H2 σ1 ρ2 r x ∧ OutS G K W σ F H ρ (k r ρ2) Dn := by
  refine ⟨ρ1, F1, g1.sub, g1.sl, ?_⟩
  cases e : f ρ1 with
  | ok r ρ2 =>
    rw [e] at h
    exact fun v F2 H2 g2 p2 => ⟨r, ρ2, F2, g2, p2, h⟩
  | ex e' ρ2 =>
    rw [e] at h
    exact fun cls dx F2 H2 g2 p2 => h cls dx σ1 F2 H2 (g1.trans g2) p2
  | no =>
    rw [e] at h
    exact h
theorem ss_pass : SimS G X W (.Pass pos) sNext := PS.of ps_pass fun Dn σ H ⟨ρ, F, s, l, o⟩ => o σ F H (Go.refl s l)
theorem ss_brk : SimS G X W (.Break pos) sBrk := PS.of ps_break fun Dn σ H ⟨ρ, F, s, l, o⟩ => o σ F H (Go.refl s l)
theorem ss_cnt : SimS G X W (.Continue pos) sCnt := PS.of ps_continue fun Dn σ H ⟨ρ, F, s, l, o⟩ => o σ F H (Go.refl s l)
theorem ss_doc {x : Str} {j : Nat} {pos' : Pos} : SimS G X W (.Expr (.Constant (.str x) j pos) pos') sNext := PS.of ps_doc fun Dn σ H ⟨ρ, F, s, l, o⟩ => o σ F H (Go.refl s l)
theorem ss_retN : SimS G X W (.Return none pos) sRetN := PS.of ps_retN fun Dn σ H ⟨ρ, F, s, l, o⟩ => o .non σ F H (Go.refl s l) (by show Rep _ _ _ _ _; unfold Rep; rfl)
theorem ss_ret (ha : SimE G X W a fa) : SimS G X W (.Return (some a) pos) (sRet fa) := PS.of (ps_ret ha) fun Dn σ H h =>
  rds1 (f := fa) h fun r v ρ1 F1 H1 l g p o => o v σ F1 H1 g p
theorem ss_expr (ha : SimE G X W a fa) (hs : swapsWith a none pos.line X.env = pure false := by rfl) : SimS G X W (.Expr a pos) (sExpr fa) := PS.of (ps_expr ha hs) fun Dn σ H h =>
  rds1 (f := fa) h fun r v ρ1 F1 H1 l g p o => o σ F1 H1 g
theorem sb_nil : SimB G X W [] sNext := PSs.of pss_nil fun Dn σ H ⟨ρ, F, s, l, o⟩ => o σ F H (Go.refl s l)
theorem sb_one (h : SimS G X W st f) : SimB G X W [st] f := pss_one h
theorem sb_cons (h : SimS G X W st f) (h2 : SimB G X W sts g) : SimB G X W (st :: sts) (sSeq f g) := PSs.of (pss_cons h h2) fun Dn σ H ⟨ρ, F, s, l, o⟩ => by
  refine ⟨ρ, F, s, l, ?_⟩
  show OutS G X.K W σ F H ρ (f ρ) { Dn with nx := RdS G X.K W g Dn }
  unfold sSeq SR.seq at o
  cases e : f ρ with
  | nx ρ1 =>
    simp only [e] at o
    exact fun σ1 F1 H1 g1 => ⟨ρ1, F1, g1.sub, g1.sl, o.after g1⟩
  | rt r ρ1 => simp only [e] at o; exact o
  | bk ρ1 => simp only [e] at o; exact o
  | ct ρ1 => simp only [e] at o; exact o
  | ex r ρ1 => simp only [e] at o; exact o
  | no => simp only [e] at o; exact o
theorem ss_if {bs cs : List Stmt} (ht : SimT G X W a ft) (h1 : SimB G X W bs f) (h2 : SimB G X W cs g) : SimS G X W (.If a bs cs pos) (sIf ft f g) := PS.of (ps_if ht h1 h2) fun Dn σ H h =>
  rds1 (f := ft) h fun r v ρ1 F1 H1 l g1 p o => by
    have p' : r = v := p
    subst p'
    cases r with
    | true =>
      rw [if_pos rfl] at o ⊢
      exact ⟨ρ1, F1, g1.sub, g1.sl, o.after g1⟩
    | false =>
      rw [if_neg (by decide)] at o ⊢
      exact ⟨ρ1, F1, g1.sub, g1.sl, o.after g1⟩
/-! ### a slot is given a value -/
theorem sget {i j : Nat} {v : V} {x : V} (h : (σ.set i (some v))[j]? = some (some x)) : (j = i ∧ x = v) ∨ (j ≠ i ∧ σ[j]? = some (some x)) := by
  by_cases e : i = j
  · subst e
    by_cases hl : i < σ.length
    · rw [List.getElem?_set_self hl] at h
      cases h
      exact .inl ⟨rfl, rfl⟩
    · rw [List.getElem?_eq_none (by rw [List.length_set]; omega)] at h; cases h
  · rw [List.getElem?_set_ne e] at h
    exact .inr ⟨fun z => e z.symm, h⟩
theorem freeSlot_lt {i : Nat} (h : freeSlot ρ i = true) : i < ρ.length := by
  unfold freeSlot at h
  split at h <;> first | cases h; done | skip
  all_goals (rename_i e; exact (List.getElem?_eq_some_iff.mp e).1)
/-- the start g, then slot i given a value -/
theorem Go.setV {i : Nat} {d : D} {v : V} (g : Go G K σ F H ρ σ1 F1 H1 ρ1) (hf : freeSlot ρ1 i = true) (p : Rep G K F1 d v) : Go G K σ F H ρ (σ1.set i (some v)) F1 H1 (ρ1.set i (some (.val false d))) := by
  have hi := freeSlot_lt hf
  have hiσ : i < σ1.length := by rw [g.sl.len]; exact hi
  have bo : ∀ b, Bo (σ1.set i (some v)) (ρ1.set i (some (.val false d))) b → Bo σ1 ρ1 b := fun b ⟨j, q, c, h1, h2⟩ => by
    rcases set_get h1 with ⟨rfl, z⟩ | ⟨hj, h1⟩
    · cases z
    · rcases sget h2 with ⟨rfl, z⟩ | ⟨_, h2⟩
      · exact absurd rfl hj
      · exact ⟨j, q, c, h1, h2⟩
  refine g.trans ⟨g.sub, .refl, fun _ _ _ h => h, fun _ h => h, fun _ h => .inl h, ⟨by simp [g.sl.len], fun j q c h => ?_, fun j q c h => ?_, fun j q c h => ?_, fun j k q r c c' b h h' h1 h2 => ?_, fun j h => by
    rcases set_get h with ⟨_, z⟩ | ⟨hj, h⟩
    · cases z
    · rw [List.getElem?_set_ne (Ne.symm hj)]; exact g.sl.exc j h⟩, fun b h => .inl (bo b h), fun j c h => ?_, fun j c h => ?_, fun j q c => ?_, fun j q c h => ?_⟩
  · rcases set_get h with ⟨rfl, z⟩ | ⟨hj, h⟩
    · cases z
      exact ⟨v, by rw [List.getElem?_set_self hiσ], p⟩
    · obtain ⟨w, h1, h2⟩ := g.sl.val j q c h
      exact ⟨w, by rw [List.getElem?_set_ne (Ne.symm hj)]; exact h1, h2⟩
  · rcases set_get h with ⟨rfl, z⟩ | ⟨hj, h⟩
    · cases z
    · obtain ⟨w, h1, h2⟩ := g.sl.own j q c h
      exact ⟨w, by rw [List.getElem?_set_ne (Ne.symm hj)]; exact h1, h2⟩
  · rcases set_get h with ⟨rfl, z⟩ | ⟨hj, h⟩
    · cases z
    · obtain ⟨w, h1, h2, h3, h4⟩ := g.sl.lent j q c h
      exact ⟨w, by rw [List.getElem?_set_ne (Ne.symm hj)]; exact h1, h2, h3, fun z => h4 (bo w z)⟩
  · rcases set_get h with ⟨rfl, z⟩ | ⟨hj, h⟩
    · cases z
    · rcases set_get h' with ⟨rfl, z⟩ | ⟨hk, h'⟩
      · cases z
      · rw [List.getElem?_set_ne (Ne.symm hj)] at h1
        rw [List.getElem?_set_ne (Ne.symm hk)] at h2
        exact g.sl.one j k q r c c' b h h' h1 h2
  · rcases set_get h with ⟨rfl, z⟩ | ⟨hj, h⟩
    · cases z
    · exact ⟨by rw [List.getElem?_set_ne (Ne.symm hj)], c, h⟩
  · rcases set_get h with ⟨rfl, z⟩ | ⟨hj, h⟩
    · cases z
    · exact ⟨by rw [List.getElem?_set_ne (Ne.symm hj)], c, .inr h⟩
  · constructor
    · intro h
      rcases set_get h with ⟨rfl, z⟩ | ⟨hj, h⟩
      · cases z
      · exact h
    · intro h
      by_cases hj : i = j
      · subst hj; unfold freeSlot at hf; rw [h] at hf; cases hf
      · rw [List.getElem?_set_ne hj]; exact h
  · have hj : i ≠ j := fun z => by subst z; unfold freeSlot at hf; rw [h] at hf; cases hf
    rw [List.getElem?_set_ne hj]
/-- .. a new object -/
theorem Go.setO {i : Nat} {d : D} {a : Addr} (l : SlOk G K F H σ ρ) (g : Go G K σ F H ρ σ1 F1 H1 ρ1) (hf : freeSlot ρ1 i = true) (n0 : H a = none) (n1 : F1 a = none) (oa : OwnAt G K F1 H1 a d) (nb : ¬ Bo σ1 ρ1 a) : Go G K σ F H ρ (σ1.set i (some (.ref a))) F1 H1 (ρ1.set i (some (.own false d))) := by
  have hi := freeSlot_lt hf
  have hiσ : i < σ1.length := by rw [g.sl.len]; exact hi
  have bo : ∀ b, Bo (σ1.set i (some (.ref a))) (ρ1.set i (some (.own false d))) b → Bo σ1 ρ1 b ∨ b = a := fun b ⟨j, q, c, h1, h2⟩ => by
    rcases set_get h1 with ⟨rfl, z⟩ | ⟨hj, h1⟩
    · rcases sget h2 with ⟨_, z⟩ | ⟨hj, _⟩
      · exact .inr (by cases z; rfl)
      · exact absurd rfl hj
    · rcases sget h2 with ⟨rfl, z⟩ | ⟨_, h2⟩
      · exact absurd rfl hj
      · exact .inl ⟨j, q, c, h1, h2⟩
  have nl : ∀ (j : Nat) (q : Bool) (c : D), ρ1[j]? = some (some (.lent q c)) → σ1[j]? ≠ some (some (.ref a)) := fun j q c h z => by
    have h' := (g.pinL j q c).mp h
    obtain ⟨w, h1, h2, h3, h4⟩ := l.lent j q c h'
    rw [g.sigL j q c h', h1] at z
    cases z
    exact h3.some_ n0
  refine ⟨g.sub, g.ff, g.keep, g.there, g.new, ⟨by simp [g.sl.len], fun j q c h => ?_, fun j q c h => ?_, fun j q c h => ?_, fun j k q r c c' b h h' h1 h2 => ?_, fun j h => by
    rcases set_get h with ⟨_, z⟩ | ⟨hj, h⟩
    · cases z
    · rw [List.getElem?_set_ne (Ne.symm hj)]; exact g.sl.exc j h⟩, fun b h => ?_, fun j c h => ?_, fun j c h => ?_, fun j q c => ?_, fun j q c h => ?_⟩
  · rcases set_get h with ⟨rfl, z⟩ | ⟨hj, h⟩
    · cases z
    · obtain ⟨w, h1, h2⟩ := g.sl.val j q c h
      exact ⟨w, by rw [List.getElem?_set_ne (Ne.symm hj)]; exact h1, h2⟩
  · rcases set_get h with ⟨rfl, z⟩ | ⟨hj, h⟩
    · cases z
      exact ⟨a, by rw [List.getElem?_set_self hiσ], n1, oa⟩
    · obtain ⟨w, h1, h2⟩ := g.sl.own j q c h
      exact ⟨w, by rw [List.getElem?_set_ne (Ne.symm hj)]; exact h1, h2⟩
  · rcases set_get h with ⟨rfl, z⟩ | ⟨hj, h⟩
    · cases z
    · obtain ⟨w, h1, h2, h3, h4⟩ := g.sl.lent j q c h
      refine ⟨w, by rw [List.getElem?_set_ne (Ne.symm hj)]; exact h1, h2, h3, fun z => ?_⟩
      rcases bo w z with z | z
      · exact h4 z
      · subst z; exact nl j q c h h1
  · rcases set_get h with ⟨rfl, z⟩ | ⟨hj, h⟩
    · rcases set_get h' with ⟨rfl, z'⟩ | ⟨hk, h'⟩
      · rfl
      · rw [List.getElem?_set_self hiσ] at h1
        cases h1
        rw [List.getElem?_set_ne (Ne.symm hk)] at h2
        exact absurd ⟨k, r, c', h', h2⟩ nb
    · rcases set_get h' with ⟨hk, z'⟩ | ⟨hk, h'⟩
      · rw [hk, List.getElem?_set_self hiσ] at h2
        cases h2
        rw [List.getElem?_set_ne (Ne.symm hj)] at h1
        exact absurd ⟨j, q, c, h, h1⟩ nb
      · rw [List.getElem?_set_ne (Ne.symm hj)] at h1
        rw [List.getElem?_set_ne (Ne.symm hk)] at h2
        exact g.sl.one j k q r c c' b h h' h1 h2
  · rcases bo b h with z | z
    · exact g.own b z
    · subst z; exact .inr n0
  · rcases set_get h with ⟨rfl, z⟩ | ⟨hj, h⟩
    · cases z
    · obtain ⟨q1, q2⟩ := g.pinO j c h
      exact ⟨by rw [List.getElem?_set_ne (Ne.symm hj)]; exact q1, q2⟩
  · rcases set_get h with ⟨rfl, z⟩ | ⟨hj, h⟩
    · cases z
    · obtain ⟨q1, q2⟩ := g.pinV j c h
      exact ⟨by rw [List.getElem?_set_ne (Ne.symm hj)]; exact q1, q2⟩
  · constructor
    · intro h
      rcases set_get h with ⟨rfl, z⟩ | ⟨hj, h⟩
      · cases z
      · exact (g.pinL j q c).mp h
    · intro h
      have h' := (g.pinL j q c).mpr h
      have hj : i ≠ j := fun z => by subst z; unfold freeSlot at hf; rw [h'] at hf; cases hf
      rw [List.getElem?_set_ne hj]; exact h'
  · have h' := (g.pinL j q c).mpr h
    have hj : i ≠ j := fun z => by subst z; unfold freeSlot at hf; rw [h'] at hf; cases hf
    rw [List.getElem?_set_ne hj]; exact g.sigL j q c h
/-- slot i given the result r -/
theorem asgn_go {i : Nat} {r : Rv} {v : V} {ρ2 : Ro} (l : SlOk G K F H σ ρ) (g : Go G K σ F H ρ σ1 F1 H1 ρ1) (p : RepR G K H F1 H1 σ1 ρ1 r v) (e : asgn i r ρ1 = some ρ2) :
    ∃ F2, Go G K σ F H ρ (σ1.set i (some v)) F2 H1 ρ2 ∧ Sub F1 F2 := by
  unfold asgn at e
  cases r with
  | v d =>
    simp only at e
    by_cases hf : freeSlot ρ1 i = true
    · rw [if_pos hf] at e; cases e
      exact ⟨F1, g.setV hf p, .refl⟩
    · rw [if_neg hf] at e; cases e
  | fr d =>
    simp only at e
    by_cases hf : freeSlot ρ1 i = true
    · rw [if_pos hf] at e; cases e
      obtain ⟨a, rfl, h1, h2, h3, h4⟩ := p
      exact ⟨F1, Go.setO l g hf h4 h1 h2 h3, .refl⟩
    · rw [if_neg hf] at e; cases e
  | bo j =>
    simp only at e
    cases e1 : esc (.bo j) ρ1 with
    | none => rw [e1] at e; cases e
    | some q =>
      obtain ⟨d, ρ3⟩ := q
      rw [e1] at e
      simp only at e
      by_cases hf : freeSlot ρ3 i = true
      · rw [if_pos hf] at e; cases e
        obtain ⟨F2, g2, p2, s2, _⟩ := esc_go l g p e1
        exact ⟨F2, g2.setV hf p2, s2⟩
      · rw [if_neg hf] at e; cases e
theorem ss_set {i : Nat} {x : Str} {pos' : Pos} (hN : X.N.Nodup) (hi : X.N[i]? = some x) (ha : SimE G X W a fa) (hx : Loc X.env.scope x := by first | exact .inl rfl | exact .inr rfl) (hs : swapsWith a (some (.Name x pos')) pos.line X.env = pure false := by rfl)
    (hf : X.fn x = true ∨ X.env.scope.names.lookup x = some .local := by first | exact .inl rfl | exact .inr rfl | assumption) : SimS G X W (.Assign [.Name x pos'] a pos) (sAsg i fa) :=
  PS.of (ps_set hN hi hx ha hs hf) fun Dn σ H h => rds1 (f := fa) h fun r v ρ1 F1 H1 l g p o => by
    cases e : asgn i r ρ1 with
    | none => rw [e] at o; exact o.elim
    | some ρ2 =>
      rw [e] at o
      obtain ⟨F2, g2, _⟩ := asgn_go l g p e
      exact o _ F2 H1 g2
/-! ### several slots at once -/
/-- no slot's own object is left among the results -/
def settle : List Rv → Ro → Option (List Rv × Ro)
  | [], ρ => some ([], ρ)
  | .bo j :: rs, ρ => match esc (.bo j) ρ with
    | some (d, ρ1) => match settle rs ρ1 with
      | some (rs', ρ2) => some (.v d :: rs', ρ2)
      | none => none
    | none => none
  | r :: rs, ρ => match settle rs ρ with
    | some (rs', ρ2) => some (r :: rs', ρ2)
    | none => none
def noBo : List Rv → Bool
  | [] => true
  | .bo _ :: _ => false
  | _ :: rs => noBo rs
theorem settle_go {τ : L2.St} : ∀ {rs : List Rv} {vs : List V} {rs' : List Rv} {F1 : Hp} {ρ1 ρ2 : Ro}, SlOk G K F H σ ρ → Go G K σ F H ρ τ F1 H1 ρ1 → RepRs G K H F1 H1 τ ρ1 rs vs → settle rs ρ1 = some (rs', ρ2) →
    ∃ F2, Go G K σ F H ρ τ F2 H1 ρ2 ∧ RepRs G K H F2 H1 τ ρ2 rs' vs ∧ Sub F1 F2 ∧ noBo rs' = true ∧ (∀ (i : Nat) (d : D), rs'[i]? = some (.fr d) → rs[i]? = some (.fr d)) ∧ (∀ r v, RepR G K H F1 H1 τ ρ1 r v → RepR G K H F2 H1 τ ρ2 r v)
  | [], vs, rs', F1, ρ1, ρ2, l, g, p, e => by
    cases p; cases e
    exact ⟨F1, g, .nil, .refl, rfl, fun i d h => by simp at h, fun _ _ h => h⟩
  | r :: rs, vs, rs', F1, ρ1, ρ2, l, g, p, e => by
    cases p with
    | cons x y z =>
      rename_i v vs
      have keepAll : ∀ {F2 : Hp} {ρ3 : Ro}, (∀ b, F2 b ≠ none → F1 b ≠ none ∨ Bo τ ρ1 b) → Sub F1 F2 → (∀ b, Bo τ ρ3 b → Bo τ ρ1 b) → ∀ (r : Rv) (v : V), RepR G K H F1 H1 τ ρ1 r v → RepR G K H F2 H1 τ ρ3 r v := by
        intro F2 ρ3 q1 q2 q3 r0 v0 h0
        exact RepR.esc_keep h0 (r' := .v .non) (w := .non) (fun _ _ z => by cases z) (fun b hb => (q1 b hb).imp id .inl) q2 q3
      have many : ∀ {F2 : Hp} {ρ3 : Ro} {rs : List Rv} {vs : List V}, (∀ r v, RepR G K H F1 H1 τ ρ1 r v → RepR G K H F2 H1 τ ρ3 r v) → RepRs G K H F1 H1 τ ρ1 rs vs → RepRs G K H F2 H1 τ ρ3 rs vs := fun k h => by
        induction h with
        | nil => exact .nil
        | cons a b c ih => exact .cons (k _ _ a) ih c
      cases r with
      | bo j =>
        unfold settle at e
        cases e1 : esc (.bo j) ρ1 with
        | none => rw [e1] at e; cases e
        | some q =>
          obtain ⟨d, ρ3⟩ := q
          rw [e1] at e
          simp only at e
          cases e2 : settle rs ρ3 with
          | none => rw [e2] at e; cases e
          | some q =>
            obtain ⟨rs2, ρ4⟩ := q
            rw [e2] at e; cases e
            obtain ⟨F2, g2, q1, q2, q3, q4⟩ := esc_go l g x e1
            have kk : ∀ r v, RepR G K H F1 H1 τ ρ1 r v → RepR G K H F2 H1 τ ρ3 r v := keepAll (fun b hb => by
              rcases q3 b hb with z | z | ⟨_, d', z⟩
              · exact .inl z
              · exact .inr z
              · cases z) q2 q4
            obtain ⟨F3, g3, p3, s3, n3, f3, k3⟩ := settle_go l g2 (many kk y) e2
            refine ⟨F3, g3, .cons (show Rep _ _ _ _ _ from Rep.mono s3 _ _ q1) p3 (fun _ z => by cases z), q2.trans s3, n3, fun i d' h => ?_, fun r v h => k3 r v (kk r v h)⟩
            cases i with
            | zero => simp at h
            | succ i => simpa using f3 i d' (by simpa using h)
      | v d =>
        unfold settle at e
        cases e2 : settle rs ρ1 with
        | none => rw [e2] at e; cases e
        | some q =>
          obtain ⟨rs2, ρ4⟩ := q
          rw [e2] at e; cases e
          obtain ⟨F3, g3, p3, s3, n3, f3, k3⟩ := settle_go l g y e2
          refine ⟨F3, g3, .cons (k3 _ _ x) p3 (fun _ z => by cases z), s3, n3, fun i d' h => ?_, k3⟩
          cases i with
          | zero => simp at h
          | succ i => simpa using f3 i d' (by simpa using h)
      | fr d =>
        unfold settle at e
        cases e2 : settle rs ρ1 with
        | none => rw [e2] at e; cases e
        | some q =>
          obtain ⟨rs2, ρ4⟩ := q
          rw [e2] at e; cases e
          obtain ⟨F3, g3, p3, s3, n3, f3, k3⟩ := settle_go l g y e2
          refine ⟨F3, g3, .cons (k3 _ _ x) p3 (fun d' hd i e' h => z d' hd i e' (f3 i e' h)), s3, n3, fun i d' h => ?_, k3⟩
          cases i with
          | zero => simpa using h
          | succ i => simpa using f3 i d' (by simpa using h)
/-- the slots is given the values vs -/
def setAll : L2.St → List Nat → List V → L2.St
  | σ, i :: is, v :: vs => setAll (σ.set i (some v)) is vs
  | σ, _, _ => σ
theorem asgns_go : ∀ {is : List Nat} {rs : List Rv} {vs : List V} {σ1 : L2.St} {F1 : Hp} {ρ1 ρ2 : Ro}, SlOk G K F H σ ρ → Go G K σ F H ρ σ1 F1 H1 ρ1 → RepRs G K H F1 H1 σ1 ρ1 rs vs → noBo rs = true → asgns is rs ρ1 = some ρ2 →
    Go G K σ F H ρ (setAll σ1 is vs) F1 H1 ρ2
  | [], rs, vs, σ1, F1, ρ1, ρ2, l, g, p, n, e => by
    cases rs with
    | nil => cases e; cases p; exact g
    | cons r rs => cases e
  | i :: is, rs, vs, σ1, F1, ρ1, ρ2, l, g, p, n, e => by
    cases rs with
    | nil => cases e
    | cons r rs =>
      cases p with
      | cons x y z =>
        rename_i v vs
        unfold asgns at e
        cases e1 : asgn i r ρ1 with
        | none => rw [e1] at e; cases e
        | some ρ3 =>
          rw [e1] at e
          have e : asgns is rs ρ3 = some ρ2 := e
          have n' : noBo rs = true := by cases r <;> first | exact n | cases n
          -- the step leaves F as it is
          have step : Go G K σ F H ρ (σ1.set i (some v)) F1 H1 ρ3 ∧ ∀ b, Bo (σ1.set i (some v)) ρ3 b → Bo σ1 ρ1 b ∨ (v = .ref b ∧ ∃ d, r = .fr d) := by
            cases r with
            | bo j => cases n
            | v d =>
              unfold asgn at e1
              simp only at e1
              by_cases hf : freeSlot ρ1 i = true
              · rw [if_pos hf] at e1; cases e1
                refine ⟨g.setV hf x, fun b ⟨j, q, c, h1, h2⟩ => ?_⟩
                rcases set_get h1 with ⟨rfl, z⟩ | ⟨hj, h1⟩
                · cases z
                · rcases sget h2 with ⟨rfl, z⟩ | ⟨_, h2⟩
                  · exact absurd rfl hj
                  · exact .inl ⟨j, q, c, h1, h2⟩
              · rw [if_neg hf] at e1; cases e1
            | fr d =>
              unfold asgn at e1
              simp only at e1
              by_cases hf : freeSlot ρ1 i = true
              · rw [if_pos hf] at e1; cases e1
                obtain ⟨a, rfl, h1, h2, h3, h4⟩ := x
                refine ⟨Go.setO l g hf h4 h1 h2 h3, fun b ⟨j, q, c, h1, h2⟩ => ?_⟩
                rcases set_get h1 with ⟨hj, z⟩ | ⟨hj, h1⟩
                · rcases sget h2 with ⟨_, z⟩ | ⟨hj', _⟩
                  · exact .inr ⟨z.symm, d, rfl⟩
                  · exact absurd hj hj'
                · rcases sget h2 with ⟨hj', z⟩ | ⟨_, h2⟩
                  · exact absurd hj' hj
                  · exact .inl ⟨j, q, c, h1, h2⟩
              · rw [if_neg hf] at e1; cases e1
          have rest : ∀ {rs' : List Rv} {vs' : List V}, RepRs G K H F1 H1 σ1 ρ1 rs' vs' → noBo rs' = true → (∀ d, r = .fr d → ∀ (j : Nat) (e : D), rs'[j]? = some (.fr e) → vs'[j]? ≠ some v) → RepRs G K H F1 H1 (σ1.set i (some v)) ρ3 rs' vs' := by
            intro rs' vs' h
            induction h with
            | nil => exact fun _ _ => .nil
            | cons x' y' z' ih =>
              rename_i r' v' rs' vs'
              intro nb hd
              refine .cons ?_ (ih (by cases r' <;> first | exact nb | cases nb) fun d hd' j e h => ?_) z'
              · cases r' with
                | v d => exact x'
                | bo j => cases nb
                | fr d =>
                  obtain ⟨a, h1, h2, h3, h4, h5⟩ := x'
                  refine ⟨a, h1, h2, h3, fun hb => ?_, h5⟩
                  rcases step.2 a hb with w | ⟨w, d', hr⟩
                  · exact h4 w
                  · exact hd d' hr 0 d (by simp) (by simp [h1, w])
              · have := hd d hd' (j + 1) e (by simpa using h)
                simpa using this
          show Go G K σ F H ρ (setAll (σ1.set i (some v)) is vs) F1 H1 ρ2
          exact asgns_go l step.1 (rest y n' z) n' e
def sPar (is : List Nat) (as : AV) : SV := fun ρ => (as ρ).then fun rs ρ1 => match settle rs ρ1 with
  | some (rs', ρ2) => nxO (asgns is rs' ρ2)
  | none => .no
theorem rd_par {is : List Nat} {σ : L2.St} {H : Hp} (h : RdS G K W (sPar is as) Dn σ H) : RdA G K W as σ H fun vs H1 => is.length = vs.length ∧ ∀ H2, (H2 = H1 ∨ ∃ p u, H1 p = none ∧ H2 = upd H1 p u) → Dn.nx (setAll σ is vs) H2 :=
  rds1 (f := as) h fun rs vs ρ1 F1 H1 l g p o => by
    cases e : settle rs ρ1 with
    | none => simp only [e] at o; exact o.elim
    | some q =>
      obtain ⟨rs', ρ2⟩ := q
      simp only [e] at o
      cases e1 : asgns is rs' ρ2 with
      | none => rw [e1] at o; exact o.elim
      | some ρ3 =>
        rw [e1] at o
        obtain ⟨F2, g2, p2, s2, n2, _⟩ := settle_go l g p e
        have len : ∀ {is : List Nat} {rs : List Rv} {ρ ρ' : Ro}, asgns is rs ρ = some ρ' → is.length = rs.length := by
          intro is
          induction is with
          | nil => intro rs ρ ρ' h; cases rs with
            | nil => rfl
            | cons r rs => cases h
          | cons i is ih => intro rs ρ ρ' h; cases rs with
            | nil => cases h
            | cons r rs =>
              unfold asgns at h
              cases e : asgn i r ρ with
              | none => rw [e] at h; cases h
              | some ρ1 => rw [e] at h; simp [ih h]
        have len2 : ∀ {rs : List Rv} {vs : List V} {F H : Hp} {ρ : Ro} {H0 : Hp}, RepRs G K H0 F H σ ρ rs vs → rs.length = vs.length := by
          intro rs vs F H ρ H0 h
          induction h with
          | nil => rfl
          | cons _ _ _ ih => simp [ih]
        have g3 := asgns_go l g2 p2 n2 e1
        refine ⟨(len e1).trans (len2 p2), fun H2 hh => ?_⟩
        rcases hh with rfl | ⟨a, u, n, rfl⟩
        · exact o _ F2 _ g3
        · refine o _ F2 _ (g3.trans ?_)
          have w : Grow F2 H1 F2 (upd H1 a u) := .alloc g3.sub n
          exact (Go.refl g3.sub g3.sl).grow w
end
end U
end part_U6

section part_U7
set_option Elab.async false
set_option linter.all false
set_option maxRecDepth 100000
set_option maxHeartbeats 1000000
/-! U7: several names at once; objects that a slot owns are changed. -/
namespace U
open PySem L2
def gNs : List Nat → TGs
  | [] => gNil
  | i :: is => gCons (gName i) (gNs is)
theorem gNs_run : ∀ {is : List Nat} {vs : List V} {σ : L2.St} {H : Hp} {Q : L2.St → Hp → Prop}, is.length = vs.length → Q (setAll σ is vs) H → gNs is vs σ H Q
  | [], [], σ, H, Q, _, h => ⟨rfl, h⟩
  | [], v :: vs, σ, H, Q, e, h => by cases e
  | i :: is, [], σ, H, Q, e, h => by cases e
  | i :: is, v :: vs, σ, H, Q, e, h => ⟨v, vs, rfl, gNs_run (is := is) (vs := vs) (σ := σ.set i (some v)) (by simpa using e) h⟩
def sUnp (is : List Nat) (f : EV) : SV := fun ρ => (f ρ).then fun r ρ1 => match con ρ1 r with
  | some (.tup ds) => nxO (asgns is (ds.map .v) ρ1)
  | _ => .no
/-- the fields with f put to d -/
def putD (f : Str) (d : D) : List Str → List D → List Str × List D
  | k :: ks, c :: ds => if k = f then (k :: ks, d :: ds) else let p := putD f d ks ds; (k :: p.1, c :: p.2)
  | _, _ => ([f], [d])
def ownAt (i : Nat) (ρ : Ro) : Option (Bool × D) := match ρ[i]? with
  | some (some (.own p d)) => some (p, d)
  | _ => none
def hasSlot (i : Nat) (ρ : Ro) : Bool := match ρ[i]? with
  | some (some _) => true
  | _ => false
/-- an attribute of slot i's own object -/
def sSetF (cs : List Nat) (f : Str) (i : Nat) (fe : EV) : SV := fun ρ => (fe ρ).then fun r ρ1 => match esc r ρ1 with
  | some (d, ρ2) => match ownAt i ρ2 with
    | some (p, .obj c ks vs) => if c ∈ cs ∧ vs.length < 1000 then .nx (ρ2.set i (some (.own p (.obj c (putD f d ks vs).1 (putD f d ks vs).2)))) else .no
    | _ => .no
  | none => .no
/-- an item of slot i's own list -/
def sSetI (i : Nat) (fe fi : EV) : SV := fun ρ => (fe ρ).then fun r ρ1 => if hasSlot i ρ1 = true then (fi ρ1).then fun k ρ2 => match intOf (con ρ2 k), esc r ρ2 with
  | some n, some (d, ρ3) => match ownAt i ρ3 with
    | some (p, .lst xs) => match ixN xs.length n with
      | some j => .nx (ρ3.set i (some (.own p (.lst (xs.set j d)))))
      | none => .no
    | _ => .no
  | _, _ => .no
  else .no
/-- a method of slot i's own list: what it gives, what the list is then -/
def lmEnd (g : List D → List D → Option (D × List D)) (i : Nat) (rs : List Rv) (ρ1 : Ro) : XR Rv := match escAll rs ρ1 with
  | some (ds, ρ2) => match ownAt i ρ2 with
    | some (p, .lst xs) => match g xs ds with
      | some (d, xs') => .ok (.v d) (ρ2.set i (some (.own p (.lst xs'))))
      | none => .no
    | _ => .no
  | none => .no
def eLm (g : List D → List D → Option (D × List D)) (i : Nat) (as : AV) : EV := fun ρ => match ownAt i ρ with
  | some (_, .lst _) => (as ρ).bind (lmEnd g i)
  | _ => .no
def eLm0 (g : List D → List D → Option (D × List D)) (i : Nat) : EV := fun ρ => match ownAt i ρ with
  | some (_, .lst _) => lmEnd g i [] ρ
  | _ => .no
def sAug (g : D → D → Option Rv) (i : Nat) (fe : EV) : SV := fun ρ => (eVar i ρ).then fun r0 ρ0 => (fe ρ0).then fun r ρ1 => match cons2 ρ1 r0 r with
  | some (a, b) => match g a b with
    | some r' => nxO (asgn i r' ρ1)
    | none => .no
  | none => .no
def sAugF (cs : List Nat) (g : D → D → Option Rv) (f : Str) (i : Nat) (fe : EV) : SV := fun ρ => match ownAt i ρ with
  | some (_, .obj c ks vs) => if c ∈ cs then match fld f ks vs with
    | some a => (fe ρ).then fun r ρ1 => match con ρ1 r with
      | some b => match g a b, ownAt i ρ1 with
        | some (.v d), some (p, .obj c' ks' vs') => if c' = c ∧ vs'.length < 1000 then .nx (ρ1.set i (some (.own p (.obj c (putD f d ks' vs').1 (putD f d ks' vs').2)))) else .no
        | _, _ => .no
      | none => .no
    | none => .no
    else .no
  | _ => .no
section
variable {G : Glob} {X : Cx} {W : WX} {e a b c : Expr} {es : List Expr} {fa fb fc : EV} {as : AV} {K : PySem.W.Frag} {pos : Pos} {σ σ1 σ' : L2.St} {F H H0 F1 H1 F' H' : Hp} {ρ ρ1 ρ' : Ro} {o : SR} {Dn Dm : Ends}
theorem ownAt_iff {i : Nat} {p : Bool} {d : D} (h : ownAt i ρ = some (p, d)) : ρ[i]? = some (some (.own p d)) := by
  unfold ownAt at h
  split at h
  · cases h; assumption
  · cases h
theorem hasSlot_v {i : Nat} (l : SlOk G K F H σ ρ) (h : hasSlot i ρ = true) : ∃ v, σ[i]? = some (some v) := by
  unfold hasSlot at h
  split at h
  · rename_i s e
    cases s with
    | val p d => obtain ⟨v, h1, _⟩ := l.val i p d e; exact ⟨v, h1⟩
    | own p d => obtain ⟨a, h1, _⟩ := l.own i p d e; exact ⟨_, h1⟩
    | lent p d => obtain ⟨a, h1, _⟩ := l.lent i p d e; exact ⟨_, h1⟩
    | exc => exact ⟨_, (l.exc i e).1⟩
  · cases h
/-- slot i's own object is changed -/
theorem Go.setOwn {i : Nat} {p : Bool} {d d' : D} {a : Addr} {u : HO} (g : Go G K σ F H ρ σ1 F1 H1 ρ1) (e : ρ1[i]? = some (some (.own p d))) (ea : σ1[i]? = some (some (.ref a))) (oa : OwnAt G K F1 (upd H1 a u) a d') : Go G K σ F H ρ σ1 F1 (upd H1 a u) (ρ1.set i (some (.own p d'))) := by
  have hB : Bo σ1 ρ1 a := ⟨i, p, d, e, ea⟩
  have hi : i < ρ1.length := (List.getElem?_eq_some_iff.mp e).1
  have bo : ∀ b, Bo σ1 (ρ1.set i (some (.own p d'))) b → Bo σ1 ρ1 b := fun b ⟨j, q, c, h1, h2⟩ => by
    rcases set_get h1 with ⟨rfl, z⟩ | ⟨hj, h1⟩
    · exact ⟨j, p, d, e, h2⟩
    · exact ⟨j, q, c, h1, h2⟩
  have nF : F1 a = none := bo_free g.sl hB
  refine g.trans ⟨fun b o h => ?_, .refl, fun b o hb h => ?_, fun b h => ?_, fun _ h => .inl h, ⟨by rw [List.length_set]; exact g.sl.len, fun j q c h => ?_, fun j q c h => ?_, fun j q c h => ?_, fun j k q r c c' b h h' h1 h2 => ?_, fun j h => by
    rcases set_get h with ⟨_, z⟩ | ⟨hj, h⟩
    · cases z
    · exact g.sl.exc j h⟩, fun b h => .inl (bo b h), fun j c h => ?_, fun j c h => ?_, fun j q c => ?_, fun _ _ _ _ => rfl⟩
  · rw [upd_ne (ne_of_none h nF)]; exact g.sub b o h
  · rw [upd_ne (fun z => hb (by rw [z]; exact hB))]; exact h
  · unfold upd
    split
    · exact fun z => nomatch z
    · exact h
  · rcases set_get h with ⟨rfl, z⟩ | ⟨hj, h⟩
    · cases z
    · exact g.sl.val j q c h
  · rcases set_get h with ⟨rfl, z⟩ | ⟨hj, h⟩
    · cases z
      exact ⟨a, ea, nF, oa⟩
    · obtain ⟨b, q1, q2, q3⟩ := g.sl.own j q c h
      have nb : b ≠ a := fun z => hj (g.sl.one j i q p c d a h e (by rw [← z]; exact q1) ea)
      exact ⟨b, q1, q2, q3.heap fun o w => by rw [upd_ne nb]; exact w⟩
  · rcases set_get h with ⟨rfl, z⟩ | ⟨hj, h⟩
    · cases z
    · obtain ⟨b, q1, q2, q3, q4⟩ := g.sl.lent j q c h
      have nb : b ≠ a := fun z => q4 (by rw [z]; exact hB)
      exact ⟨b, q1, q2, q3.heap fun o w => by rw [upd_ne nb]; exact w, fun z => q4 (bo b z)⟩
  · have h3 : ∃ q c, ρ1[j]? = some (some (.own q c)) := by
      rcases set_get h with ⟨rfl, z⟩ | ⟨hj, h⟩
      · exact ⟨p, d, e⟩
      · exact ⟨_, _, h⟩
    have h4 : ∃ q c, ρ1[k]? = some (some (.own q c)) := by
      rcases set_get h' with ⟨rfl, z⟩ | ⟨hj, h⟩
      · exact ⟨p, d, e⟩
      · exact ⟨_, _, h⟩
    obtain ⟨_, _, h3⟩ := h3
    obtain ⟨_, _, h4⟩ := h4
    exact g.sl.one j k _ _ _ _ b h3 h4 h1 h2
  · rcases set_get h with ⟨rfl, z⟩ | ⟨hj, h⟩
    · cases z; exact ⟨rfl, d, e⟩
    · exact ⟨rfl, c, h⟩
  · rcases set_get h with ⟨rfl, z⟩ | ⟨hj, h⟩
    · cases z
    · exact ⟨rfl, c, .inr h⟩
  · constructor
    · intro h
      rcases set_get h with ⟨rfl, z⟩ | ⟨hj, h⟩
      · cases z
      · exact h
    · intro h
      by_cases hj : i = j
      · subst hj; rw [e] at h; cases h
      · rw [List.getElem?_set_ne hj]; exact h
theorem putD_rep {f : Str} {d : D} {v : V} (hv : Rep G K F d v) : ∀ {ks : List Str} {ds : List D} {gs : List (Str × V)}, gs.map (·.1) = ks → RepL G K F ds (gs.map (·.2)) → (putF f v gs).map (·.1) = (putD f d ks ds).1 ∧ RepL G K F (putD f d ks ds).2 ((putF f v gs).map (·.2))
  | [], ds, [], h, h' => by
    simp only [List.map_nil] at h'
    have : ds = [] := by cases ds with
      | nil => rfl
      | cons a r => unfold RepL at h'; obtain ⟨_, _, z, _⟩ := h'; cases z
    subst this
    refine ⟨rfl, ?_⟩
    show RepL G K F [d] [v]
    unfold RepL
    exact ⟨v, [], rfl, hv, by unfold RepL; rfl⟩
  | [], ds, g :: gs, h, h' => by cases h
  | k :: ks, ds, [], h, h' => by cases h
  | k :: ks, [], g :: gs, h, h' => by simp only [List.map_cons] at h'; unfold RepL at h'; cases h'
  | k :: ks, c :: ds, (k', x) :: gs, h, h' => by
    simp only [List.map_cons, List.cons.injEq] at h
    obtain ⟨rfl, h2⟩ := h
    simp only [List.map_cons] at h'
    unfold RepL at h'
    obtain ⟨y, r, h3, h4, h5⟩ := h'
    simp only [List.cons.injEq] at h3
    obtain ⟨rfl, rfl⟩ := h3
    unfold putF putD
    by_cases z : k' = f
    · rw [if_pos z, if_pos z]
      refine ⟨by simp [h2], ?_⟩
      simp only [List.map_cons]
      unfold RepL
      exact ⟨v, _, rfl, hv, h5⟩
    · rw [if_neg z, if_neg z]
      obtain ⟨q1, q2⟩ := putD_rep (f := f) hv h2 h5
      refine ⟨by simp [q1], ?_⟩
      simp only [List.map_cons]
      unfold RepL
      exact ⟨x, _, rfl, h4, q2⟩
theorem ss_setF {f : Str} {cs : List Nat} {i : Nat} {x : Str} {pos' p2 : Pos} (ha : SimE G X W a fa) (hv : PE X (.Name x p2) (tVar i)) (hc : ∀ c ∈ cs, Cls X.K (G.ca c) ∧ NoAttr X.K (G.ca c) f) (hs : swapsWith a (some (.Attribute (.Name x p2) f pos')) pos.line X.env = pure false := by rfl) :
    SimS G X W (.Assign [.Attribute (.Name x p2) f pos'] a pos) (sSetF cs f i fa) :=
  PS.of (ps_fld hv ha hs) fun Dn σ H h => rds1 (f := fa) h fun r v ρ1 F1 H1 l g p o => by
    cases e : esc r ρ1 with
    | none => simp only [e] at o; exact o.elim
    | some q =>
      obtain ⟨d, ρ2⟩ := q
      simp only [e] at o
      cases e1 : ownAt i ρ2 with
      | none => simp only [e1] at o; exact o.elim
      | some q =>
        obtain ⟨p', c⟩ := q
        cases c <;> simp only [e1] at o <;> try exact o.elim
        rename_i c ks vs
        by_cases hz : c ∈ cs ∧ vs.length < 1000
        · rw [if_pos hz] at o
          obtain ⟨F2, g2, q1, _⟩ := esc_go l g p e
          have e2 := ownAt_iff e1
          obtain ⟨a, h1, h2, dx, gs, h3, h4, h5⟩ := g2.sl.own i _ _ e2
          obtain ⟨q3, q4⟩ := putD_rep (f := f) q1 h4 h5
          refine ⟨.ref a, h1, a, _, dx, gs, rfl, h3, (hc c hz.1).1, (hc c hz.1).2, ?_, ?_⟩
          · have := h5.len
            simp only [List.length_map] at this
            omega
          · exact o _ _ _ (g2.setOwn e2 h1 ⟨dx, _, upd_same, q3, q4⟩)
        · rw [if_neg hz] at o; exact o.elim
theorem ss_setI {i : Nat} {x : Str} {pos' p2 : Pos} (ha : SimE G X W a fa) (hb : SimE G X W b fb) (hv : PE X (.Name x p2) (tVar i)) (hsub : ∀ v, PySem.assign (.Subscript (.Name x p2) b pos') X.env v = (do
      let ov ← holding [v] (eval (.Name x p2) X.env)
      let iv ← holding [v, ov] (eval b X.env)
      standAt pos'
      holding [v, ov, iv] (setItem ov iv v)
      release [v, ov, iv] []) := by intro _; rfl)
    (hs : swapsWithSole [.Subscript (.Name x p2) b pos'] a pos.line X.env = pure false := by rfl) (hw : swappedStores [.Subscript (.Name x p2) b pos'] a X.env = pure none := by rfl) (h1 : (assignEach [.Subscript (.Name x p2) b pos'] X.env).map (·.2) = [PySem.assign (.Subscript (.Name x p2) b pos') X.env] := by rfl) :
    SimS G X W (.Assign [.Subscript (.Name x p2) b pos'] a pos) (sSetI i fa fb) :=
  PS.of (ps_asg ha (pg_sub hv hb set_list hsub) hs hw h1) fun Dn σ H h => by
    obtain ⟨ρ, F, s, l, o⟩ := h
    refine Rd.mono ?_ (rds_more (Go.refl s l) o)
    rintro v H1 ⟨r, ρ1, F1, g1, p1, o1⟩
    by_cases hh : hasSlot i ρ1 = true
    case neg => simp only [if_neg hh] at o1; exact o1.elim
    simp only [if_pos hh] at o1
    obtain ⟨y, hy⟩ := hasSlot_v g1.sl hh
    refine ⟨y, hy, ?_⟩
    refine Rd.mono ?_ (rds_more g1 o1)
    rintro w H2 ⟨k, ρ2, F2, g2, p2, o2⟩
    have gg := g1.trans g2
    cases e1 : intOf (con ρ2 k) with
    | none => simp only [e1] at o2; exact o2.elim
    | some n =>
      cases e2 : esc r ρ2 with
      | none => simp only [e1, e2] at o2; exact o2.elim
      | some q =>
        obtain ⟨d, ρ3⟩ := q
        simp only [e1, e2] at o2
        cases e3 : ownAt i ρ3 with
        | none => simp only [e3] at o2; exact o2.elim
        | some q =>
          obtain ⟨p', c⟩ := q
          cases c <;> simp only [e3] at o2 <;> try exact o2.elim
          rename_i xs
          cases e4 : ixN xs.length n with
          | none => simp only [e4] at o2; exact o2.elim
          | some j =>
            simp only [e4] at o2
            obtain ⟨F3, g3, q1, q2, _⟩ := esc_go l gg (p1.go g2) e2
            have e5 := ownAt_iff e3
            obtain ⟨a, h1, h2, ys, h3, h4⟩ := g3.sl.own i _ _ e5
            rw [hy] at h1; cases h1
            have e6 : con ρ2 k = some (.int n) := by
              unfold intOf at e1
              split at e1
              · cases e1; assumption
              · cases e1
            refine ⟨a, ys, n, j, rfl, at_int (at_of gg.sub gg.sl p2 e6), h3, by rw [← h4.len]; exact e4, ?_⟩
            exact o2 _ _ _ (g3.setOwn e5 hy ⟨_, upd_same, h4.set j q1⟩)
end
end U
end part_U7

section part_U8
set_option Elab.async false
set_option linter.all false
set_option maxRecDepth 100000
set_option maxHeartbeats 1000000
/-! U8: methods of lists and of values; operators that store; several names. -/
namespace U
open PySem L2
/-- a method that changes the list it is asked of -/
structure LmOk (G : Glob) (X : Cx) (id : String) (g : List D → List D → Option (D × List D)) : Prop where
  ex : ∃ R, MtR X id R ∧ ∀ {F H : Hp} {ds as ds' : List D} {vs xs : List V} {l : Addr} {d : D} {Q : VK}, Sub F H → H l = some (.lst vs) → RepL G X.K F ds vs → RepL G X.K F as xs → g ds as = some (d, ds') →
    (∀ v vs', RepL G X.K F ds' vs' → Rep G X.K F d v → Q v (upd H l (.lst vs'))) → R (.ref l) xs H Q
def lmAppend : List D → List D → Option (D × List D)
  | ds, [a] => if ds.length < big then some (.non, ds ++ [a]) else none
  | _, _ => none
def lmPop : List D → List D → Option (D × List D)
  | ds, [] => match ds[ds.length - 1]? with
    | some d => some (d, ds.dropLast)
    | none => none
  | ds, [.int i] => if -(2 ^ 63) ≤ i ∧ i < 2 ^ 63 then match seqIndex? i ds.length with
    | some k => match ds[k]? with
      | some d => some (d, ds.eraseIdx k)
      | none => none
    | none => none
    else none
  | _, _ => none
def lmInsert : List D → List D → Option (D × List D)
  | ds, [.int i, a] => if ds.length < big ∧ 0 ≤ i ∧ i < 2 ^ 63 then some (.non, ds.take i.toNat ++ [a] ++ ds.drop i.toNat) else none
  | _, _ => none
def lmExtend : List D → List D → Option (D × List D)
  | ds, [.lst es] => if ds.length + es.length ≤ big then some (.non, ds ++ es) else none
  | _, _ => none
def lmReverse : List D → List D → Option (D × List D)
  | ds, [] => some (.non, ds.reverse)
  | _, _ => none
section
variable {G : Glob} {X : Cx} {W : WX} {e a b c : Expr} {es : List Expr} {fa fb fc : EV} {as : AV} {K : PySem.W.Frag} {pos : Pos} {σ σ1 σ' : L2.St} {F H H0 F1 H1 F' H' : Hp} {ρ ρ1 ρ' : Ro} {o : SR} {Dn Dm : Ends}
theorem repL_nil {xs : List V} (h : RepL G K F [] xs) : xs = [] := by unfold RepL at h; exact h
theorem repL_cons {d : D} {ds : List D} {xs : List V} (h : RepL G K F (d :: ds) xs) : ∃ x r, xs = x :: r ∧ Rep G K F d x ∧ RepL G K F ds r := by unfold RepL at h; exact h
theorem repL_one {d : D} {xs : List V} (h : RepL G K F [d] xs) : ∃ x, xs = [x] ∧ Rep G K F d x := by
  obtain ⟨x, r, rfl, h1, h2⟩ := repL_cons h
  cases repL_nil h2
  exact ⟨x, rfl, h1⟩
theorem repL_mk {d : D} {ds : List D} {x : V} {r : List V} (h : Rep G K F d x) (h2 : RepL G K F ds r) : RepL G K F (d :: ds) (x :: r) := by unfold RepL; exact ⟨x, r, rfl, h, h2⟩
theorem repL_mk0 : RepL G K F [] [] := by unfold RepL; rfl
theorem repL_rev : ∀ {ds : List D} {xs : List V}, RepL G K F ds xs → RepL G K F ds.reverse xs.reverse
  | [], xs, h => by cases repL_nil h; exact repL_mk0
  | d :: ds, xs, h => by
    obtain ⟨x, r, rfl, h1, h2⟩ := repL_cons h
    simp only [List.reverse_cons]
    exact (repL_rev h2).append (repL_mk h1 repL_mk0)
theorem repL_dropLast {ds : List D} {xs : List V} (h : RepL G K F ds xs) : RepL G K F ds.dropLast xs.dropLast := by
  rw [List.dropLast_eq_take, List.dropLast_eq_take, h.len]
  exact h.take _
theorem rep_int {i : Int} {x : V} (h : Rep G K F (.int i) x) : x = .int i := by unfold Rep at h; exact h
theorem rep_str {z : Str} {x : V} (h : Rep G K F (.str z) x) : x = .str z := by unfold Rep at h; exact h
theorem rep_bl {z : Bool} {x : V} (h : Rep G K F (.bl z) x) : x = .bl z := by unfold Rep at h; exact h
theorem rep_non {x : V} (h : Rep G K F .non x) : x = .non := by unfold Rep at h; exact h
theorem mk_non : Rep G K F .non .non := by unfold Rep; rfl
theorem mk_int {i : Int} : Rep G K F (.int i) (.int i) := by unfold Rep; rfl
theorem mk_bl {i : Bool} : Rep G K F (.bl i) (.bl i) := by unfold Rep; rfl
theorem mk_str {i : Str} : Rep G K F (.str i) (.str i) := by unfold Rep; rfl
theorem MtR.or {id : String} {r r' : V → List V → Hp → VK → Prop} (h : MtR X id r) (h' : MtR X id r') : MtR X id (fun x xs H Q => r x xs H Q ∨ r' x xs H Q) := by
  intro pins s σ H x xs v us Q I rx ry q
  rcases q with q | q
  · exact h pins s σ H x xs v us Q I rx ry q
  · exact h' pins s σ H x xs v us Q I rx ry q
theorem lm_append : LmOk G X "list.append" lmAppend := ⟨_, mt_append, fun {F H ds as ds' vs xs l d Q} s hl hd ha hg q => by
  unfold lmAppend at hg
  split at hg
  · split at hg
    · cases hg
      rename_i hz
      obtain ⟨x, rfl, h1⟩ := repL_one ha
      exact ⟨l, vs, x, rfl, rfl, hl, by rw [← hd.len]; exact Nat.lt_of_lt_of_le hz (by decide), q _ _ (hd.append (repL_mk h1 repL_mk0)) mk_non⟩
    · cases hg
  · cases hg⟩
theorem lm_pop : LmOk G X "list.pop" lmPop := ⟨_, MtR.or mt_pop mt_popAt, fun {F H ds as ds' vs xs l d Q} s hl hd ha hg q => by
  unfold lmPop at hg
  split at hg
  · cases repL_nil ha
    split at hg
    · cases hg
      rename_i d e1
      obtain ⟨x, h1, h2⟩ := hd.get e1
      rw [hd.len] at h1
      exact .inl ⟨l, vs, x, rfl, rfl, hl, h1, q _ _ (repL_dropLast hd) h2⟩
    · cases hg
  · rename_i i
    split at hg
    · rename_i hz
      split at hg
      · rename_i k e1
        split at hg
        · cases hg
          rename_i d e2
          obtain ⟨x, rfl, h1⟩ := repL_one ha
          cases rep_int h1
          obtain ⟨y, h3, h4⟩ := hd.get e2
          exact .inr ⟨l, vs, i, k, y, rfl, rfl, hl, hz.1, hz.2, by rw [← hd.len]; exact e1, h3, q _ _ (hd.erase k) h4⟩
        · cases hg
      · cases hg
    · cases hg
  · cases hg⟩
theorem lm_insert : LmOk G X "list.insert" lmInsert := ⟨_, mt_insert, fun {F H ds as ds' vs xs l d Q} s hl hd ha hg q => by
  unfold lmInsert at hg
  split at hg
  · split at hg
    · cases hg
      rename_i hz
      obtain ⟨x, r, rfl, h1, h2⟩ := repL_cons ha
      obtain ⟨y, rfl, h3⟩ := repL_one h2
      cases rep_int h1
      exact ⟨l, vs, _, y, rfl, rfl, hl, by rw [← hd.len]; exact Nat.lt_of_lt_of_le hz.1 (by decide), hz.2.1, hz.2.2, q _ _ (((hd.take _).append (repL_mk h3 repL_mk0)).append (hd.drop _)) mk_non⟩
    · cases hg
  · cases hg⟩
theorem lm_extend : LmOk G X "list.extend" lmExtend := ⟨_, mt_extend, fun {F H ds as ds' vs xs l d Q} s hl hd ha hg q => by
  unfold lmExtend at hg
  split at hg
  · split at hg
    · cases hg
      rename_i hz
      obtain ⟨x, rfl, h1⟩ := repL_one ha
      unfold Rep at h1
      obtain ⟨a, ys, rfl, h2, h3⟩ := h1
      exact ⟨l, a, vs, ys, rfl, rfl, hl, s _ _ h2, big_le (by rw [← hd.len, ← h3.len]; exact hz), q _ _ (hd.append h3) mk_non⟩
    · cases hg
  · cases hg⟩
theorem lm_reverse : LmOk G X "list.reverse" lmReverse := ⟨_, mt_reverse, fun {F H ds as ds' vs xs l d Q} s hl hd ha hg q => by
  unfold lmReverse at hg
  split at hg
  · cases hg
    cases repL_nil ha
    exact ⟨l, vs, rfl, rfl, hl, q _ _ (repL_rev hd) mk_non⟩
  · cases hg⟩
theorem rd_lm {g : List D → List D → Option (D × List D)} {R : V → List V → Hp → VK → Prop} {i : Nat} (k : ∀ {F H : Hp} {ds as ds' : List D} {vs xs : List V} {l : Addr} {d : D} {Q : VK}, Sub F H → H l = some (.lst vs) → RepL G K F ds vs → RepL G K F as xs → g ds as = some (d, ds') →
    (∀ v vs', RepL G K F ds' vs' → Rep G K F d v → Q v (upd H l (.lst vs'))) → R (.ref l) xs H Q) {σ : L2.St} {H : Hp} {Q : VK} {y : V} (hy : σ[i]? = some (some y))
    {rs : List Rv} {vs : List V} {ρ1 : Ro} {F1 H1 : Hp} {ρ : Ro} {F : Hp} (l : SlOk G K F H σ ρ) (g1 : Go G K σ F H ρ σ F1 H1 ρ1) (p : RepRs G K H F1 H1 σ ρ1 rs vs)
    (o : Out G K W (RepR G K) σ F H ρ (lmEnd g i rs ρ1) Q) : R y vs H1 Q := by
  unfold lmEnd at o
  cases e : escAll rs ρ1 with
  | none => simp only [e] at o; exact o.no_
  | some q =>
    obtain ⟨ds, ρ2⟩ := q
    simp only [e] at o
    cases e1 : ownAt i ρ2 with
    | none => simp only [e1] at o; exact o.no_
    | some q =>
      obtain ⟨p', c⟩ := q
      cases c <;> simp only [e1] at o <;> try exact o.no_
      rename_i xs
      cases e2 : g xs ds with
      | none => simp only [e2] at o; exact o.no_
      | some q =>
        obtain ⟨d, xs'⟩ := q
        simp only [e2] at o
        obtain ⟨F2, g2, p2, _⟩ := escAll_go l g1 p e
        have e3 := ownAt_iff e1
        obtain ⟨a, h1, h2, ys, h3, h4⟩ := g2.sl.own i _ _ e3
        rw [hy] at h1; cases h1
        refine k g2.sub h3 h4 p2 e2 fun v vs' q1 q2 => ?_
        exact o.done (g2.setOwn e3 hy ⟨_, upd_same, q1⟩) q2
theorem own_list {i : Nat} {p : Bool} {xs : List D} (l : SlOk G K F H σ ρ) (e : ownAt i ρ = some (p, .lst xs)) : ∃ a, σ[i]? = some (some (.ref a)) ∧ tyV K "list" (.ref a) H := by
  obtain ⟨a, h1, h2, ys, h3, h4⟩ := l.own i _ _ (ownAt_iff e)
  exact ⟨a, h1, .inl ⟨rfl, ys, SqL.of h3⟩⟩
/-- x.m(e, ..) of slot i's own list -/
theorem se_lm {i : Nat} {x name : Str} {id : String} {p2 apos cpos : Pos} {g : List D → List D → Option (D × List D)} (k : LmOk G X id g) (slot : Slot "list" name id) (hty : typeOf (.builtin id) = pure (.type "method_descriptor")) (hv : PE X (.Name x p2) (tVar i)) (ha : SimA G X W (e :: es) as)
    (hbase : attributeBase (.Name x p2) name X.env (eval (.Name x p2) X.env) = eval (.Name x p2) X.env := by rfl) (hst : starEach (e :: es) X.env = (false, eval e X.env) :: starEach es X.env := by rfl) (hpl : (backTo cpos (starEach es X.env)).any (·.1) = false := by rfl) (hline : (apos.endLine == cpos.line) = true := by rfl)
    (hfew : ((backTo cpos (starEach (e :: es) X.env)).all (fun y => !y.1) && (backToKw cpos (keywordEach [] X.env)).all (fun y => y.1.isSome) && decide ((e :: es).length + ([] : List Keyword).length + (if ([] : List Keyword).isEmpty then 0 else 1) < 30)) = true := by rfl) :
    SimE G X W (.Call (.Attribute (.Name x p2) name apos) (e :: es) [] cpos) (eLm g i as) := by
  obtain ⟨R, h1, h2⟩ := k.ex
  refine PE.of (pe_bm PySem.F.plainAttrs_list slot hty h1 hv ha hbase hfew hline hst hpl) fun σ H Q h => ?_
  obtain ⟨ρ, F, s, l, o⟩ := h
  unfold eLm at o
  cases e1 : ownAt i ρ with
  | none => simp only [e1] at o; exact o.no_
  | some q =>
    obtain ⟨p', c⟩ := q
    cases c <;> simp only [e1] at o <;> try exact o.no_
    obtain ⟨a, hy, ty⟩ := own_list l e1
    refine ⟨.ref a, hy, ty, ?_⟩
    refine Rd.mono ?_ (rd_bind oldE s l o)
    rintro vs H1 ⟨rs, ρ1, F1, g1, p1, o1⟩
    exact rd_lm h2 hy l g1 p1 o1
theorem se_lm0 {i : Nat} {x name : Str} {id : String} {p2 apos cpos : Pos} {g : List D → List D → Option (D × List D)} (k : LmOk G X id g) (slot : Slot "list" name id) (hty : typeOf (.builtin id) = pure (.type "method_descriptor")) (hv : PE X (.Name x p2) (tVar i))
    (hbase : attributeBase (.Name x p2) name X.env (eval (.Name x p2) X.env) = eval (.Name x p2) X.env := by rfl) (hline : (apos.endLine == cpos.line) = true := by rfl) :
    SimE G X W (.Call (.Attribute (.Name x p2) name apos) [] [] cpos) (eLm0 g i) := by
  obtain ⟨R, h1, h2⟩ := k.ex
  refine PE.of (pe_bm0 PySem.F.plainAttrs_list slot hty h1 hv hbase hline) fun σ H Q h => ?_
  obtain ⟨ρ, F, s, l, o⟩ := h
  unfold eLm0 at o
  cases e1 : ownAt i ρ with
  | none => simp only [e1] at o; exact o.no_
  | some q =>
    obtain ⟨p', c⟩ := q
    cases c <;> simp only [e1] at o <;> try exact o.no_
    obtain ⟨a, hy, ty⟩ := own_list l e1
    exact ⟨.ref a, hy, ty, rd_lm h2 hy l (Go.refl s l) .nil o⟩
/-! ### operators that store -/
theorem ss_aug {i : Nat} {x : Str} {op : Operator} {pos' : Pos} {g : D → D → Option Rv} {R : TIp} (hN : X.N.Nodup) (hi : X.N[i]? = some x) (ho : PIp X op R) (k : Val2 G X.K R g) (ha : SimE G X W a fa) (hx : Loc X.env.scope x := by first | exact .inl rfl | exact .inr rfl) (hf : X.fn x = true ∨ X.env.scope.names.lookup x = some .local := by first | exact .inl rfl | exact .inr rfl | assumption) :
    SimS G X W (.AugAssign (.Name x pos') op a pos) (sAug g i fa) :=
  PS.of (ps_aug hN hi hx ha ho hf) fun Dn σ H h => by
    obtain ⟨ρ, F, s, l, o⟩ := h
    have hv : ∃ y r0, eVar i ρ = .ok r0 ρ ∧ σ[i]? = some (some y) ∧ RepR G X.K H F H σ ρ r0 y := by
      unfold sAug XR.then eVar at o
      unfold eVar
      split at o <;> rename_i e1
      · split at e1 <;> cases e1
        · rename_i p d e2
          obtain ⟨v, h1, h2⟩ := l.val i p d e2
          exact ⟨v, _, rfl, h1, h2⟩
        · rename_i p d e2
          obtain ⟨a, h1, _⟩ := l.own i p d e2
          exact ⟨.ref a, _, rfl, h1, h1⟩
        · rename_i p d e2
          obtain ⟨a, h1, _⟩ := l.lent i p d e2
          exact ⟨.ref a, _, rfl, h1, h1⟩
      · split at e1 <;> cases e1
      · exact o.elim
    obtain ⟨y, r0, e0, hy, p0⟩ := hv
    refine ⟨y, hy, ?_⟩
    have o' : OutS G X.K W σ F H ρ ((fa ρ).then fun r ρ1 => match cons2 ρ1 r0 r with
      | some (a, b) => match g a b with
        | some r' => nxO (asgn i r' ρ1)
        | none => .no
      | none => .no) Dn := by
      unfold sAug at o
      rw [e0] at o
      exact o
    refine Rd.mono ?_ (rds_more (Go.refl s l) o')
    rintro v H1 ⟨r, ρ1, F1, g1, p1, o1⟩
    have p0' := p0.go g1
    cases e1 : cons2 ρ1 r0 r with
    | none => simp only [e1] at o1; exact o1.elim
    | some q =>
      obtain ⟨d1, d2⟩ := q
      simp only [e1] at o1
      cases e2 : g d1 d2 with
      | none => simp only [e2] at o1; exact o1.elim
      | some r' =>
        simp only [e2] at o1
        have c1 : con ρ1 r0 = some d1 ∧ con ρ1 r = some d2 := by
          unfold cons2 at e1
          cases q1 : con ρ1 r0 with
          | none => rw [q1] at e1; cases e1
          | some z =>
            cases q2 : con ρ1 r with
            | none => rw [q1, q2] at e1; cases e1
            | some z' => rw [q1, q2] at e1; cases e1; exact ⟨rfl, rfl⟩
        refine k g1.sub (at_of g1.sub g1.sl p0' c1.1) (at_of g1.sub g1.sl p1 c1.2) e2 fun z F' H' w n => ?_
        cases e3 : asgn i r' ρ1 with
        | none => rw [e3] at o1; exact o1.elim
        | some ρ2 =>
          rw [e3] at o1
          obtain ⟨F2, g2, _⟩ := asgn_go l (g1.grow w) (n.rep g1 w) e3
          exact o1 _ F2 _ g2
theorem ip_ok {op : Operator} {f : Int → Int → Int} {g : D → D → Option Rv} (hg : ∀ d e r, g d e = some r → ∃ i j, d = .int i ∧ e = .int j ∧ r = .v (.int (f i j))) : Val2 G K (ipI f) g := by
  intro F H d e x y r Q s hd he h q
  obtain ⟨i, j, rfl, rfl, rfl⟩ := hg d e r h
  exact ⟨i, j, at_int hd, at_int he, q _ F H (.refl s) (mk_int (G := G) (K := K) (F := F))⟩
def gAddN : D → D → Option Rv
  | .int i, .int j => some (.v (.int (i + j)))
  | _, _ => none
theorem v_ipAdd : Val2 G K (ipI fun i j => i + j) gAddN := ip_ok (op := .Add) fun d e r h => by
  unfold gAddN at h
  split at h
  · cases h; exact ⟨_, _, rfl, rfl, rfl⟩
  · cases h
theorem v_ipSub : Val2 G K (ipI fun i j => i - j) gSub := ip_ok (op := .Sub) fun d e r h => by
  unfold gSub at h
  split at h
  · cases h; exact ⟨_, _, rfl, rfl, rfl⟩
  · cases h
theorem ss_augF {f : Str} {cs : List Nat} {i : Nat} {x : Str} {op : Operator} {tpos p2 : Pos} {g : D → D → Option Rv} {R : V → V → Hp → VK → Prop} (hop : InOp X op R) (k : Val2 G X.K R g) (ha : SimE G X W a fa) (hv : PE X (.Name x p2) (tVar i)) (hc : ∀ c ∈ cs, Cls X.K (G.ca c) ∧ NoAttr X.K (G.ca c) f) :
    SimS G X W (.AugAssign (.Attribute (.Name x p2) f tpos) op a pos) (sAugF cs g f i fa) :=
  PS.of (ps_fldaug hv ha hop) fun Dn σ H h => by
    obtain ⟨ρ, F, s, l, o⟩ := h
    unfold sAugF at o
    cases e0 : ownAt i ρ with
    | none => simp only [e0] at o; exact o.elim
    | some q =>
      obtain ⟨p0, c0⟩ := q
      cases c0 <;> simp only [e0] at o <;> try exact o.elim
      rename_i c ks vs
      by_cases hm : c ∈ cs
      case neg => simp only [if_neg hm] at o; exact o.elim
      simp only [if_pos hm] at o
      cases e1 : fld f ks vs with
      | none => simp only [e1] at o; exact o.elim
      | some d0 =>
        simp only [e1] at o
        have e0' := ownAt_iff e0
        obtain ⟨a, h1, h2, dx, gs, h3, h4, h5⟩ := l.own i _ _ e0'
        obtain ⟨w, q1, q2⟩ := fld_rep h4 h5 e1
        refine ⟨.ref a, h1, a, _, dx, gs, w, rfl, h3, (hc c hm).1, (hc c hm).2, q1, ?_⟩
        refine Rd.mono ?_ (rds_more (Go.refl s l) o)
        rintro v H1 ⟨r, ρ1, F1, g1, p1, o1⟩
        cases e2 : con ρ1 r with
        | none => simp only [e2] at o1; exact o1.elim
        | some d1 =>
          simp only [e2] at o1
          cases e3 : g d0 d1 with
          | none => simp only [e3] at o1; exact o1.elim
          | some r' =>
            cases r' with
            | fr d => simp only [e3] at o1; exact o1.elim
            | bo d => simp only [e3] at o1; exact o1.elim
            | v d =>
              simp only [e3] at o1
              cases e4 : ownAt i ρ1 with
              | none => simp only [e4] at o1; exact o1.elim
              | some q =>
                obtain ⟨p', c'⟩ := q
                cases c' <;> simp only [e4] at o1 <;> try exact o1.elim
                rename_i c' ks' vs'
                by_cases hz : c' = c ∧ vs'.length < 1000
                · rw [if_pos hz] at o1
                  obtain ⟨rfl, hz⟩ := hz
                  refine k g1.sub (At.of_rep g1.sub (Rep.mono g1.ff _ _ q2)) (at_of g1.sub g1.sl p1 e2) e3 fun z F' H' w n => ?_
                  have g2 := g1.grow w
                  have e4' := ownAt_iff e4
                  obtain ⟨a', h1', h2', dx', gs', h3', h4', h5'⟩ := g2.sl.own i _ _ e4'
                  rw [h1] at h1'; cases h1'
                  obtain ⟨q3, q4⟩ := putD_rep (f := f) (show Rep G X.K F' d z from n) h4' h5'
                  refine ⟨dx', gs', h3', ?_, ?_⟩
                  · have := h5'.len
                    simp only [List.length_map] at this
                    omega
                  · exact o1 _ _ _ (g2.setOwn e4' h1 ⟨dx', _, upd_same, q3, q4⟩)
                · rw [if_neg hz] at o1; exact o1.elim
/-! ### several names -/
theorem PGs.names_nil : PGs X [] (gNs []) := pgs_nil
theorem PGs.names_cons {i : Nat} {is : List Nat} {x : Str} {p : Pos} (hN : X.N.Nodup) (hi : X.N[i]? = some x) (h : PGs X es (gNs is)) (hx : Loc X.env.scope x := by first | exact .inl rfl | exact .inr rfl) (hf : X.fn x = true ∨ X.env.scope.names.lookup x = some .local := by first | exact .inl rfl | exact .inr rfl | assumption)
    (hs : (assignEach (.Name x p :: es) X.env).map (·.2) = PySem.assign (.Name x p) X.env :: (assignEach es X.env).map (·.2) := by rfl) : PGs X (.Name x p :: es) (gNs (i :: is)) := pgs_cons (pg_name hN hi hx hf) h hs
/-- a, b, .. = e1, e2, .., the tuple made on the way -/
theorem ss_parT {ts : List Expr} {is : List Nat} {k1 k2 n : Nat} {p1 p2 : Pos} (hc : X.calm = true) (ha : SimA G X W es as) (ht : PGs X ts (gNs is)) (hn2 : is.length = n := by rfl) (hn3 : n ≤ 1000 := by decide) (hn : (assignEach ts X.env).length = n := by rfl) (hst : (assignEach ts X.env).findIdx? (·.1) = none := by rfl)
    (hs : swapsWithSole [.Tuple ts k1 p1] (.Tuple es k2 p2) pos.line X.env = pure false := by rfl) (hw : swappedStores [.Tuple ts k1 p1] (.Tuple es k2 p2) X.env = pure none := by rfl) (h1 : (assignEach [.Tuple ts k1 p1] X.env).map (·.2) = [PySem.assign (.Tuple ts k1 p1) X.env] := by rfl) :
    SimS G X W (.Assign [.Tuple ts k1 p1] (.Tuple es k2 p2) pos) (sPar is as) :=
  PS.of (ps_asg (pe_tup ha) (pg_tup hc ht hn hst) hs hw h1) fun Dn σ H h => by
    refine Rd.mono ?_ (rd_par h)
    rintro vs H1 ⟨hl, k⟩
    refine ⟨by rw [← hl, hn2]; exact small1000 hn3 |> Nat.le_of_lt, fun p hp => ⟨p, vs, rfl, SqT.of upd_same, by rw [← hl, hn2], gNs_run hl (k _ (.inr ⟨p, _, hp, rfl⟩))⟩⟩
theorem ss_par2 {i j : Nat} {x y : Str} {a b : Expr} {px py pt : Pos} {kt k2 : Nat} {pt2 : Pos} (hc : X.calm = true) (hN : X.N.Nodup) (hi : X.N[i]? = some x) (hj : X.N[j]? = some y) (hij : i ≠ j) (ha : SimA G X W [a, b] as) (hx : X.env.scope.names.lookup x = some .local := by rfl) (hy : X.env.scope.names.lookup y = some .local := by rfl)
    (hw : swappedStores [.Tuple [.Name x px, .Name y py] kt pt] (.Tuple [a, b] k2 pt2) X.env = pure (some [x, y]) := by rfl) (hs : swapsWithSole [.Tuple [.Name x px, .Name y py] kt pt] (.Tuple [a, b] k2 pt2) pos.line X.env = pure false := by rfl) :
    SimS G X W (.Assign [.Tuple [.Name x px, .Name y py] kt pt] (.Tuple [a, b] k2 pt2) pos) (sPar [i, j] as) :=
  PS.of (ps_par hc hN hi hj hij hx hy ha hw hs) fun Dn σ H h => by
    refine Rd.mono ?_ (rd_par h)
    rintro vs H1 ⟨hl, k⟩
    match vs, hl with
    | [v, w], _ => exact ⟨v, w, rfl, k _ (.inl rfl)⟩
theorem ss_par3 {i j m : Nat} {x y z : Str} {a b c : Expr} {px py pz pt : Pos} {kt k2 : Nat} {pt2 : Pos} (hc : X.calm = true) (hN : X.N.Nodup) (hi : X.N[i]? = some x) (hj : X.N[j]? = some y) (hm : X.N[m]? = some z) (hij : i ≠ j) (him : i ≠ m) (hjm : j ≠ m) (ha : SimA G X W [a, b, c] as) (hx : X.env.scope.names.lookup x = some .local := by rfl) (hy : X.env.scope.names.lookup y = some .local := by rfl) (hz : X.env.scope.names.lookup z = some .local := by rfl)
    (hw : swappedStores [.Tuple [.Name x px, .Name y py, .Name z pz] kt pt] (.Tuple [a, b, c] k2 pt2) X.env = pure (some [x, y, z]) := by rfl) (hs : swapsWithSole [.Tuple [.Name x px, .Name y py, .Name z pz] kt pt] (.Tuple [a, b, c] k2 pt2) pos.line X.env = pure false := by rfl) :
    SimS G X W (.Assign [.Tuple [.Name x px, .Name y py, .Name z pz] kt pt] (.Tuple [a, b, c] k2 pt2) pos) (sPar [i, j, m] as) :=
  PS.of (ps_par3 hc hN hi hj hm hij him hjm hx hy hz ha hw hs) fun Dn σ H h => by
    refine Rd.mono ?_ (rd_par h)
    rintro vs H1 ⟨hl, k⟩
    match vs, hl with
    | [v, w, u], _ => exact ⟨v, w, u, rfl, k _ (.inl rfl)⟩
/-- a, b, .. = e, a tuple -/
theorem reprs_v : ∀ {ds : List D} {xs : List V}, RepL G K F ds xs → RepRs G K H0 F H σ ρ (ds.map .v) xs := fun {ds xs} h => by
  have := reprs_vals (H0 := H0) (H := H) (σ := σ) (ρ := ρ) h .nil
  simpa using this
theorem noBo_v : ∀ ds : List D, noBo (ds.map .v) = true
  | [] => rfl
  | _ :: ds => noBo_v ds
theorem asgns_len {is : List Nat} : ∀ {rs : List Rv} {ρ ρ' : Ro}, asgns is rs ρ = some ρ' → is.length = rs.length := by
  induction is with
  | nil => intro rs ρ ρ' h; cases rs with
    | nil => rfl
    | cons r rs => cases h
  | cons i is ih => intro rs ρ ρ' h; cases rs with
    | nil => cases h
    | cons r rs =>
      unfold asgns at h
      cases e : asgn i r ρ with
      | none => rw [e] at h; cases h
      | some ρ1 => rw [e] at h; simp [ih h]
theorem ss_unp {ts : List Expr} {is : List Nat} {k1 n : Nat} {p1 : Pos} (hc : X.calm = true) (ha : SimE G X W a fa) (ht : PGs X ts (gNs is)) (hn2 : is.length = n := by rfl) (hn : (assignEach ts X.env).length = n := by rfl) (hst : (assignEach ts X.env).findIdx? (·.1) = none := by rfl)
    (hs : swapsWithSole [.Tuple ts k1 p1] a pos.line X.env = pure false := by rfl) (hw : swappedStores [.Tuple ts k1 p1] a X.env = pure none := by rfl) (h1 : (assignEach [.Tuple ts k1 p1] X.env).map (·.2) = [PySem.assign (.Tuple ts k1 p1) X.env] := by rfl) :
    SimS G X W (.Assign [.Tuple ts k1 p1] a pos) (sUnp is fa) :=
  PS.of (ps_asg ha (pg_tup hc ht hn hst) hs hw h1) fun Dn σ H h => rds1 (f := fa) h fun r v ρ1 F1 H1 l g p o => by
    cases e : con ρ1 r with
    | none => simp only [e] at o; exact o.elim
    | some d =>
      cases d <;> simp only [e] at o <;> try exact o.elim
      rename_i ds
      cases e1 : asgns is (ds.map .v) ρ1 with
      | none => rw [e1] at o; exact o.elim
      | some ρ2 =>
        rw [e1] at o
        obtain ⟨b, xs, rfl, h1, h2⟩ := at_tup g.sub (at_of g.sub g.sl p e)
        have hl : is.length = xs.length := by rw [asgns_len e1, List.length_map, h2.len]
        refine ⟨b, xs, rfl, h1, by rw [← hl, hn2], gNs_run hl (o _ F1 _ (asgns_go l g (reprs_v h2) (noBo_v ds) e1))⟩
end
end U
end part_U8

section part_U9
set_option Elab.async false
set_option linter.all false
set_option maxRecDepth 100000
set_option maxHeartbeats 1000000
/-! U9: loops. -/
namespace U
open PySem L2
/-- a target of one name, of several -/
abbrev GV := D → Ro → Option Ro
def gOne (i : Nat) : GV := fun d ρ => asgn i (.v d) ρ
def gMany (is : List Nat) : GV := fun d ρ => match d with
  | .tup ds => asgns is (ds.map .v) ρ
  | _ => none
def loopL (asg : GV) (body : SV) : List D → Ro → SR
  | [], ρ => .nx ρ
  | d :: ds, ρ => match asg d ρ with
    | none => .no
    | some ρ1 => match body ρ1 with
      | .nx ρ2 => loopL asg body ds ρ2
      | .ct ρ2 => loopL asg body ds ρ2
      | .bk ρ2 => .nx ρ2
      | x => x
/-- slot i's own object is lent out while something walks it -/
def lend (m : Option Nat) (ρ : Ro) : Ro := match m with
  | none => ρ
  | some i => match ρ[i]? with
    | some (some (.own p d)) => ρ.set i (some (.lent p d))
    | _ => ρ
/-- .. and is its own again, as it was in ρ0 -/
def back (m : Option Nat) (ρ0 ρ : Ro) : Ro := match m with
  | none => ρ
  | some i => match ρ0[i]? with
    | some (some (.own p d)) => ρ.set i (some (.own p d))
    | _ => ρ
def backS (m : Option Nat) (ρ0 : Ro) : SR → SR
  | .nx ρ => .nx (back m ρ0 ρ)
  | .rt r ρ => .rt r (back m ρ0 ρ)
  | .bk ρ => .bk (back m ρ0 ρ)
  | .ct ρ => .ct (back m ρ0 ρ)
  | .ex e ρ => .ex e (back m ρ0 ρ)
  | .no => .no
def backX {α : Type} (m : Option Nat) (ρ0 : Ro) : XR α → XR α
  | .ok r ρ => .ok r (back m ρ0 ρ)
  | .ex e ρ => .ex e (back m ρ0 ρ)
  | .no => .no
/-- what is walked: its items, and the slot whose own object it is -/
abbrev WV := Ro → XR (List D × Option Nat)
def lendOf (ρ : Ro) : Rv → Option Nat
  | .bo i => match ρ[i]? with
    | some (some (.own _ _)) => some i
    | _ => none
  | _ => none
def wSeq (fe : EV) : WV := fun ρ => (fe ρ).bind fun r ρ1 => match con ρ1 r with
  | some (.lst ds) => .ok (ds, lendOf ρ1 r) ρ1
  | some (.tup ds) => .ok (ds, none) ρ1
  | _ => .no
def rangeD (a : Int) (n : Nat) : List D := (List.range n).map fun (k : Nat) => D.int (a + (k : Int))
def small62 (i : Int) : Bool := decide (-(2 ^ 62) ≤ i ∧ i < 2 ^ 62)
def one_int : Option (List D) → Option Int
  | some [.int j] => some j
  | _ => none
def two_int : Option (List D) → Option (Int × Int)
  | some [.int i, .int j] => some (i, j)
  | _ => none
def wRng1 (as : AV) : WV := fun ρ => (as ρ).bind fun rs ρ1 => match one_int (rs.mapM (con ρ1)) with
  | some j => if small62 j = true then .ok (rangeD 0 j.toNat, none) ρ1 else .no
  | none => .no
def wRng2 (as : AV) : WV := fun ρ => (as ρ).bind fun rs ρ1 => match two_int (rs.mapM (con ρ1)) with
  | some (i, j) => if (small62 i && small62 j) = true then .ok (rangeD i (j - i).toNat, none) ρ1 else .no
  | none => .no
def enumD : Nat → List D → List D
  | _, [] => []
  | k, d :: ds => .tup [.int (k : Int), d] :: enumD (k + 1) ds
def oneR : List Rv → Rv
  | [r] => r
  | _ => .bo 1000000
def lstOf : Option D → Option (List D)
  | some (.lst ds) => some ds
  | _ => none
def wEnum (as : AV) : WV := fun ρ => (as ρ).bind fun rs ρ1 => match lstOf (con ρ1 (oneR rs)) with
  | some ds => if rs.length = 1 then .ok (enumD 0 ds, lendOf ρ1 (oneR rs)) ρ1 else .no
  | none => .no
def strOf : Option D → Option Str
  | some (.str z) => some z
  | _ => none
def wStr (fe : EV) : WV := fun ρ => (fe ρ).bind fun r ρ1 => match strOf (con ρ1 r) with
  | some z => .ok (z.cps.toList.map (fun c => D.str ⟨#[c]⟩), none) ρ1
  | none => .no
def sFor (asg : GV) (w : WV) (body : SV) : SV := fun ρ => (w ρ).then fun q ρ1 => backS q.2 ρ1 (loopL asg body q.1 (lend q.2 ρ1))
def whileL (t : TV) (body : SV) : Nat → Ro → SR
  | 0, _ => .no
  | n + 1, ρ => (t ρ).then fun b ρ1 => if b = true then match body ρ1 with
      | .nx ρ2 => whileL t body n ρ2
      | .ct ρ2 => whileL t body n ρ2
      | .bk ρ2 => .nx ρ2
      | x => x
    else .nx ρ1
def sWhile (n : Nat) (t : TV) (body : SV) : SV := fun ρ => whileL t body n ρ
section
variable {G : Glob} {X : Cx} {W : WX} {e a b c tg : Expr} {es : List Expr} {fa fb fc : EV} {as : AV} {ft : TV} {f : SV} {K : PySem.W.Frag} {pos : Pos} {σ σ1 σ' : L2.St} {F H H0 F1 H1 F' H' : Hp} {ρ ρ1 ρ' : Ro} {o : SR} {Dn Dm : Ends}
theorem sl_lend {i : Nat} {p : Bool} {d : D} (l : SlOk G K F H σ ρ) (e : ρ[i]? = some (some (.own p d))) : SlOk G K F H σ (ρ.set i (some (.lent p d))) := by
  obtain ⟨a, ha, hF, hO⟩ := l.own i p d e
  have bo : ∀ b, Bo σ (ρ.set i (some (.lent p d))) b → Bo σ ρ b ∧ b ≠ a := fun b ⟨j, q, c, h1, h2⟩ => by
    rcases set_get h1 with ⟨rfl, z⟩ | ⟨hj, h1⟩
    · cases z
    · exact ⟨⟨j, q, c, h1, h2⟩, fun z => hj (l.one j i q p c d a h1 e (by rw [← z]; exact h2) ha)⟩
  refine ⟨by rw [List.length_set]; exact l.len, fun j q c h => ?_, fun j q c h => ?_, fun j q c h => ?_, fun j k q r c c' b h h' h1 h2 => ?_, fun j h => by
    rcases set_get h with ⟨_, z⟩ | ⟨hj, h⟩
    · cases z
    · exact l.exc j h⟩
  · rcases set_get h with ⟨rfl, z⟩ | ⟨hj, h⟩
    · cases z
    · exact l.val j q c h
  · rcases set_get h with ⟨rfl, z⟩ | ⟨hj, h⟩
    · cases z
    · exact l.own j q c h
  · rcases set_get h with ⟨rfl, z⟩ | ⟨hj, h⟩
    · cases z; exact ⟨a, ha, hF, hO, fun z => (bo a z).2 rfl⟩
    · obtain ⟨b, q1, q2, q3, q4⟩ := l.lent j q c h
      exact ⟨b, q1, q2, q3, fun z => q4 (bo b z).1⟩
  · rcases set_get h with ⟨rfl, z⟩ | ⟨hj, h⟩
    · cases z
    · rcases set_get h' with ⟨rfl, z⟩ | ⟨hk, h'⟩
      · cases z
      · exact l.one j k q r c c' b h h' h1 h2
theorem Go.unlend {i : Nat} {p : Bool} {d : D} (l : SlOk G K F1 H1 σ ρ1) (e : ρ1[i]? = some (some (.own p d))) (g : Go G K σ F1 H1 (ρ1.set i (some (.lent p d))) σ' F' H' ρ') : Go G K σ F1 H1 ρ1 σ' F' H' (ρ'.set i (some (.own p d))) := by
  obtain ⟨a, ha, hF, hO⟩ := l.own i p d e
  have hi : i < ρ1.length := (List.getElem?_eq_some_iff.mp e).1
  have eL : (ρ1.set i (some (.lent p d)))[i]? = some (some (.lent p d)) := List.getElem?_set_self hi
  have eL' := (g.pinL i p d).mpr eL
  have hi' : i < ρ'.length := (List.getElem?_eq_some_iff.mp eL').1
  have hσ : σ'[i]? = some (some (.ref a)) := (g.sigL i p d eL).trans ha
  obtain ⟨a', ha', hF', hO', hB'⟩ := g.sl.lent i p d eL'
  rw [hσ] at ha'; cases ha'
  have hBa : Bo σ ρ1 a := ⟨i, p, d, e, ha⟩
  have b0 : ∀ b, Bo σ (ρ1.set i (some (.lent p d))) b → Bo σ ρ1 b := fun b ⟨j, q, c, h1, h2⟩ => by
    rcases set_get h1 with ⟨rfl, z⟩ | ⟨hj, h1⟩
    · cases z
    · exact ⟨j, q, c, h1, h2⟩
  have b1 : ∀ b, Bo σ' (ρ'.set i (some (.own p d))) b → b = a ∨ Bo σ' ρ' b := fun b ⟨j, q, c, h1, h2⟩ => by
    rcases set_get h1 with ⟨rfl, z⟩ | ⟨hj, h1⟩
    · rw [hσ] at h2; cases h2; exact .inl rfl
    · exact .inr ⟨j, q, c, h1, h2⟩
  refine ⟨g.sub, g.ff, fun b o hb h => g.keep b o (fun z => hb (b0 b z)) h, g.there, fun b h => (g.new b h).imp id (.imp id (b0 b)), ⟨by rw [List.length_set]; exact g.sl.len, fun j q c h => ?_, fun j q c h => ?_, fun j q c h => ?_, fun j k q r c c' b h h' h1 h2 => ?_, fun j h => by
    rcases set_get h with ⟨_, z⟩ | ⟨hj, h⟩
    · cases z
    · exact g.sl.exc j h⟩, fun b h => ?_, fun j c h => ?_, fun j c h => ?_, fun j q c => ?_, fun j q c h => ?_⟩
  · rcases set_get h with ⟨rfl, z⟩ | ⟨hj, h⟩
    · cases z
    · exact g.sl.val j q c h
  · rcases set_get h with ⟨rfl, z⟩ | ⟨hj, h⟩
    · cases z; exact ⟨a, hσ, hF', hO'⟩
    · exact g.sl.own j q c h
  · rcases set_get h with ⟨rfl, z⟩ | ⟨hj, h⟩
    · cases z
    · obtain ⟨w, q1, q2, q3, q4⟩ := g.sl.lent j q c h
      refine ⟨w, q1, q2, q3, fun z => ?_⟩
      rcases b1 w z with z | z
      · subst z
        have h0 := (g.pinL j q c).mp h
        rcases set_get h0 with ⟨z, _⟩ | ⟨_, h0'⟩
        · exact hj z
        · obtain ⟨w', r1, _, _, r4⟩ := l.lent j q c h0'
          rw [g.sigL j q c h0, r1] at q1
          cases q1
          exact r4 hBa
      · exact q4 z
  · rcases set_get h with ⟨hj, z⟩ | ⟨hj, h⟩
    · rcases set_get h' with ⟨hk, z'⟩ | ⟨hk, h'⟩
      · rw [hj, hk]
      · rw [hj, hσ] at h1; cases h1
        exact absurd ⟨k, r, c', h', h2⟩ hB'
    · rcases set_get h' with ⟨hk, z'⟩ | ⟨hk, h'⟩
      · rw [hk, hσ] at h2; cases h2
        exact absurd ⟨j, q, c, h, h1⟩ hB'
      · exact g.sl.one j k q r c c' b h h' h1 h2
  · rcases b1 b h with z | z
    · subst z; exact .inl hBa
    · exact (g.own b z).imp (b0 b) id
  · rcases set_get h with ⟨rfl, z⟩ | ⟨hj, h⟩
    · cases z; exact ⟨hσ.trans ha.symm, d, e⟩
    · obtain ⟨q1, w, q2⟩ := g.pinO j c h
      rcases set_get q2 with ⟨z, _⟩ | ⟨_, q2⟩
      · exact absurd z hj
      · exact ⟨q1, w, q2⟩
  · rcases set_get h with ⟨rfl, z⟩ | ⟨hj, h⟩
    · cases z
    · obtain ⟨q1, w, q2⟩ := g.pinV j c h
      refine ⟨q1, w, ?_⟩
      rcases q2 with q2 | q2
      · rcases set_get q2 with ⟨z, _⟩ | ⟨_, q2⟩
        · exact absurd z hj
        · exact .inl q2
      · rcases set_get q2 with ⟨z, _⟩ | ⟨_, q2⟩
        · exact absurd z hj
        · exact .inr q2
  · constructor
    · intro h
      rcases set_get h with ⟨rfl, z⟩ | ⟨hj, h⟩
      · cases z
      · rcases set_get ((g.pinL j q c).mp h) with ⟨z, _⟩ | ⟨_, h⟩
        · exact absurd z hj
        · exact h
    · intro h
      have hj : i ≠ j := fun z => by subst z; rw [e] at h; cases h
      rw [List.getElem?_set_ne hj]
      exact (g.pinL j q c).mpr (by rw [List.getElem?_set_ne hj]; exact h)
  · have hj : i ≠ j := fun z => by subst z; rw [e] at h; cases h
    exact g.sigL j q c (by rw [List.getElem?_set_ne hj]; exact h)
theorem sl_lendM (m : Option Nat) (l : SlOk G K F H σ ρ) : SlOk G K F H σ (lend m ρ) := by
  unfold lend
  split
  · exact l
  · split
    · exact sl_lend l (by assumption)
    · exact l
theorem Go.unlendM (m : Option Nat) (l : SlOk G K F1 H1 σ ρ1) (g : Go G K σ F1 H1 (lend m ρ1) σ' F' H' ρ') : Go G K σ F1 H1 ρ1 σ' F' H' (back m ρ1 ρ') := by
  unfold lend at g
  unfold back
  cases m with
  | none => exact g
  | some i =>
    simp only at g ⊢
    split at g
    · rename_i p d e
      exact g.unlend l e
    · exact g
theorem bo_back {m : Option Nat} {b : Addr} (l : SlOk G K F1 H1 σ ρ1) (g : Go G K σ F1 H1 (lend m ρ1) σ' F' H' ρ') (h : Bo σ' (back m ρ1 ρ') b) : Bo σ' ρ' b ∨ H1 b ≠ none := by
  unfold back at h
  cases m with
  | none => exact .inl h
  | some i =>
    simp only at h
    split at h
    · rename_i p d e
      obtain ⟨j, q, c, h1, h2⟩ := h
      rcases set_get h1 with ⟨rfl, z⟩ | ⟨hj, h1⟩
      · obtain ⟨a, ha, _, hO⟩ := l.own _ _ _ e
        have hi : j < ρ1.length := (List.getElem?_eq_some_iff.mp e).1
        have g' : Go G K σ F1 H1 (ρ1.set j (some (.lent p d))) σ' F' H' ρ' := by
          have g0 := g
          unfold lend at g0
          simp only [e] at g0
          exact g0
        have := g'.sigL j p d (List.getElem?_set_self hi)
        rw [this, ha] at h2
        cases h2
        exact .inr hO.some_
      · exact .inl ⟨j, q, c, h1, h2⟩
    · exact .inl h
theorem RepR.back_ {m : Option Nat} {r : Rv} {v : V} (l : SlOk G K F1 H1 σ ρ1) (g : Go G K σ F1 H1 (lend m ρ1) σ' F' H' ρ') (p : RepR G K H1 F' H' σ' ρ' r v) : RepR G K H1 F' H' σ' (back m ρ1 ρ') r v := by
  cases r with
  | v d => exact p
  | bo i => exact p
  | fr d =>
    obtain ⟨a, h1, h2, h3, h4, h5⟩ := p
    refine ⟨a, h1, h2, h3, fun z => ?_, h5⟩
    rcases bo_back l g z with z | z
    · exact h4 z
    · exact z h5
theorem OutS.unlend (m : Option Nat) (l : SlOk G K F1 H1 σ ρ1) (h : OutS G K W σ F1 H1 ρ1 (backS m ρ1 o) Dn) : OutS G K W σ F1 H1 (lend m ρ1) o Dn := by
  cases o with
  | nx ρ' => exact fun σ' F' H' g => h σ' F' H' (g.unlendM m l)
  | bk ρ' => exact fun σ' F' H' g => h σ' F' H' (g.unlendM m l)
  | ct ρ' => exact fun σ' F' H' g => h σ' F' H' (g.unlendM m l)
  | rt r ρ' => exact fun v σ' F' H' g p => h v σ' F' H' (g.unlendM m l) (p.back_ l g)
  | ex e ρ' => exact fun cls dx σ' F' H' g p => h cls dx σ' F' H' (g.unlendM m l) p
  | no => exact h
/-- what J gives from the state at hand on -/
structure Items (G : Glob) (K : PySem.W.Frag) (J : It) (σ : L2.St) (F H : Hp) (ρ : Ro) (ds : List D) : Prop where
  go : ∀ {σ' F' H' ρ'} {i : Nat}, Go G K σ F H ρ σ' F' H' ρ' → i < ds.length → J.go i H'
  yld : ∀ {σ' F' H' ρ'} {i : Nat} {d : D} {x : V} {H2 : Hp}, Go G K σ F H ρ σ' F' H' ρ' → ds[i]? = some d → J.yld i H' x H2 → ∃ F2, Grow F' H' F2 H2 ∧ Rep G K F2 d x
  stop : ∀ {σ' F' H' ρ'}, Go G K σ F H ρ σ' F' H' ρ' → J.stop ds.length H'
/-- what is asked of a source's outcome -/
def OutW (G : Glob) (K : PySem.W.Frag) (W : WX) (σ : L2.St) (F H : Hp) (ρ : Ro) (o : XR (List D × Option Nat)) (R : It → Hp → Prop) : Prop := match o with
  | .ok q ρ1 => ∀ J F1 H1, Go G K σ F H ρ σ F1 H1 ρ1 → Items G K J σ F1 H1 (lend q.2 ρ1) q.1 → R J H1
  | .ex e ρ1 => ∀ cls dx F1 H1, Go G K σ F H ρ σ F1 H1 ρ1 → ExAt G K F1 cls dx e → W cls (some dx) σ H1
  | .no => False
/-- what a for walks -/
structure SimI (G : Glob) (X : Cx) (W : WX) (tg iter : Expr) (w : WV) : Prop where
  ex : ∃ wi, PI X tg iter wi ∧ ∀ {σ : L2.St} {H : Hp} {ρ : Ro} {F : Hp} {R : It → Hp → Prop}, Sub F H → SlOk G X.K F H σ ρ →
    OutW G X.K W σ F H ρ (w ρ) R → wi σ H R
/-- a target's reading t gives the slots is their values -/
def TgOk (G : Glob) (K : PySem.W.Frag) (t : TG) (is : List Nat) (asg : GV) : Prop := ∀ {σ σ1 : L2.St} {F H F1 H1 : Hp} {ρ ρ1 ρ2 : Ro} {d : D} {v : V} {Q : L2.St → Hp → Prop}, SlOk G K F H σ ρ → Go G K σ F H ρ σ1 F1 H1 ρ1 → Rep G K F1 d v → asg d ρ1 = some ρ2 →
    (∀ σ2, Go G K σ F H ρ σ2 F1 H1 ρ2 → σ2.length = σ1.length → (∀ j, j ∉ is → σ2[j]? = σ1[j]?) → Q σ2 H1) → t v σ1 H1 Q
theorem setAll_other : ∀ {is : List Nat} {vs : List V} {σ : L2.St} {j : Nat}, j ∉ is → (setAll σ is vs)[j]? = σ[j]?
  | [], vs, σ, j, _ => by cases vs <;> rfl
  | i :: is, [], σ, j, _ => rfl
  | i :: is, v :: vs, σ, j, h => by
    show (setAll (σ.set i (some v)) is vs)[j]? = _
    rw [setAll_other (fun z => h (List.mem_cons_of_mem _ z)), List.getElem?_set_ne (fun z => h (by rw [z]; exact List.mem_cons_self))]
theorem setAll_len : ∀ {is : List Nat} {vs : List V} {σ : L2.St}, (setAll σ is vs).length = σ.length
  | [], vs, σ => by cases vs <;> rfl
  | i :: is, [], σ => rfl
  | i :: is, v :: vs, σ => by
    show (setAll (σ.set i (some v)) is vs).length = _
    rw [setAll_len, List.length_set]
theorem tg_one (i : Nat) : TgOk G K (gName i) [i] (gOne i) := fun {σ σ1 F H F1 H1 ρ ρ1 ρ2 d v Q} l g r e k => by
  unfold gOne asgn at e
  simp only at e
  by_cases hf : freeSlot ρ1 i = true
  · rw [if_pos hf] at e; cases e
    exact k _ (g.setV hf r) (List.length_set) fun j hj => List.getElem?_set_ne (fun z => hj (by simp [z]))
  · rw [if_neg hf] at e; cases e
theorem tg_many {is : List Nat} {n : Nat} (hn : is.length = n) : TgOk G K (gTup K n (gNs is)) is (gMany is) := fun {σ σ1 F H F1 H1 ρ ρ1 ρ2 d v Q} l g r e k => by
  unfold gMany at e
  cases d <;> simp only at e <;> try cases e
  rename_i ds
  unfold Rep at r
  obtain ⟨a, xs, rfl, h1, h2⟩ := r
  have hl : is.length = xs.length := by rw [asgns_len e, List.length_map, h2.len]
  exact ⟨a, xs, rfl, g.sub.sqT h1, by rw [← hl, hn], gNs_run hl (k _ (asgns_go l g (reprs_v h2) (noBo_v ds) e) setAll_len fun j hj => setAll_other hj)⟩
structure SimG (G : Glob) (X : Cx) (tg : Expr) (asg : GV) : Prop where
  ex : ∃ t is, PG X tg t ∧ TgOk G X.K t is asg
theorem sg_one {i : Nat} {x : Str} {p : Pos} (hN : X.N.Nodup) (hi : X.N[i]? = some x) (hx : Loc X.env.scope x := by first | exact .inl rfl | exact .inr rfl) (hf : X.fn x = true ∨ X.env.scope.names.lookup x = some .local := by first | exact .inl rfl | exact .inr rfl | assumption) : SimG G X (.Name x p) (gOne i) :=
  ⟨gName i, [i], pg_name hN hi hx hf, tg_one i⟩
theorem sg_many {ts : List Expr} {is : List Nat} {k1 n : Nat} {p1 : Pos} (hc : X.calm = true) (ht : PGs X ts (gNs is)) (hn2 : is.length = n := by rfl) (hn : (assignEach ts X.env).length = n := by rfl) (hst : (assignEach ts X.env).findIdx? (·.1) = none := by rfl) : SimG G X (.Tuple ts k1 p1) (gMany is) :=
  ⟨_, is, pg_tup hc ht hn hst, tg_many hn2⟩
theorem drop_get {α : Type} {ds : List α} {i : Nat} {d : α} (h : ds[i]? = some d) : ds.drop i = d :: ds.drop (i + 1) := by
  obtain ⟨hi, rfl⟩ := List.getElem?_eq_some_iff.mp h
  exact List.drop_eq_getElem_cons hi
theorem ss_for {iter : Expr} {body : List Stmt} {asg : GV} {w : WV} (hp : PassesOwn (model X.prog X.w) X.A X.env X.xe) (hc : X.calm = true) (hw : SimI G X W tg iter w) (hg : SimG G X tg asg) (hb : SimB G X W body f) (hs : ∀ x, foldedSetIterable iter X.env x = pure x := by intro _; rfl) : SimS G X W (.For tg iter body [] pos) (sFor asg w f) := by
  obtain ⟨wi, h1, k1⟩ := hw.ex
  obtain ⟨t, is, h2, k2⟩ := hg.ex
  refine PS.of (ps_for hp hc h1 h2 hb hs) fun Dn σ H h => ?_
  obtain ⟨ρ, F, s, l, o⟩ := h
  refine k1 s l ?_
  unfold sFor XR.then at o
  unfold OutW
  cases e : w ρ with
  | no => simp only [e] at o; exact o
  | ex e' ρ1 => simp only [e] at o; exact fun cls dx F1 H1 g p => o cls dx σ F1 H1 g p
  | ok q ρ1 =>
    simp only [e] at o
    obtain ⟨ds, m⟩ := q
    intro J F1 H1 g1 it
    have o1 := OutS.unlend m g1.sl (o.after g1)
    have l1 := sl_lendM m g1.sl
    have start := Go.refl g1.sub l1
    refine ⟨fun i n σ' H' => n = ds.length - i ∧ i ≤ ds.length ∧ ∃ F' ρ', Go G X.K σ F1 H1 (lend m ρ1) σ' F' H' ρ' ∧ OutS G X.K W σ F1 H1 (lend m ρ1) (loopL asg f (ds.drop i) ρ') Dn, ⟨_, rfl, Nat.zero_le _, F1, _, start, o1⟩, ?_⟩
    rintro i n σ' H' ⟨rfl, hi, F', ρ', g, oo⟩
    by_cases hlt : i < ds.length
    · obtain ⟨d, hd⟩ : ∃ d, ds[i]? = some d := ⟨ds[i], List.getElem?_eq_getElem hlt⟩
      rw [drop_get hd] at oo
      refine .inr ⟨it.go g hlt, fun σ2 H2 => ∃ F2 ρ2, Go G X.K σ F1 H1 (lend m ρ1) σ2 F2 H2 ρ2 ∧ OutS G X.K W σ F1 H1 (lend m ρ1) (loopL asg f (ds.drop (i + 1)) ρ2) Dn, fun σ2 H2 ⟨F2, ρ2, q1, q2⟩ => ⟨ds.length - (i + 1), by omega, rfl, hlt, F2, ρ2, q1, q2⟩, ?_⟩
      intro x H2 hy
      obtain ⟨F2, w2, r2⟩ := it.yld g hd hy
      unfold loopL at oo
      cases e1 : asg d ρ' with
      | none => simp only [e1] at oo; exact oo.elim
      | some ρ2 =>
        simp only [e1] at oo
        refine k2 l1 (g.grow w2) r2 e1 fun σ2 g2 _ _ => ?_
        refine ⟨ρ2, F2, g2.sub, g2.sl, ?_⟩
        cases e2 : f ρ2 with
        | nx ρ3 => simp only [e2] at oo; exact fun σ3 F3 H3 g3 => ⟨F3, ρ3, g2.trans g3, oo⟩
        | ct ρ3 => simp only [e2] at oo; exact fun σ3 F3 H3 g3 => ⟨F3, ρ3, g2.trans g3, oo⟩
        | bk ρ3 => simp only [e2] at oo; exact fun σ3 F3 H3 g3 => oo _ _ _ (g2.trans g3)
        | rt r ρ3 => simp only [e2] at oo; exact fun v σ3 F3 H3 g3 p => oo _ _ _ _ (g2.trans g3) (p.older g2.there)
        | ex e' ρ3 => simp only [e2] at oo; exact fun cls dx σ3 F3 H3 g3 p => oo _ _ _ _ _ (g2.trans g3) p
        | no => simp only [e2] at oo; exact oo
    · have hi' : i = ds.length := by omega
      subst hi'
      rw [List.drop_length] at oo
      exact .inl ⟨it.stop g, oo _ _ _ g⟩
theorem ss_while {n : Nat} {body : List Stmt} (hp : PassesOwn (model X.prog X.w) X.A X.env X.xe) (hc : SimT G X W c ft) (hb : SimB G X W body f) : SimS G X W (.While c body [] pos) (sWhile n ft f) :=
  PS.of (ps_while hp hc hb) fun Dn σ H h => by
    obtain ⟨ρ, F, s, l, o⟩ := h
    refine ⟨fun k σ' H' => ∃ F' ρ', Go G X.K σ F H ρ σ' F' H' ρ' ∧ OutS G X.K W σ F H ρ (whileL ft f k ρ') Dn, ⟨n, F, ρ, Go.refl s l, o⟩, ?_⟩
    rintro k σ' H' ⟨F', ρ', g, oo⟩
    cases k with
    | zero => exact oo.elim
    | succ k =>
      unfold whileL at oo
      refine Rd.mono ?_ (rds_more g oo)
      rintro bv H2 ⟨bb, ρ2, F2, g2, p2, o2⟩
      have p2' : bb = bv := p2
      subst p2'
      cases bb with
      | false =>
        rw [if_neg (by decide)] at o2 ⊢
        exact o2 _ _ _ (g.trans g2)
      | true =>
        rw [if_pos rfl] at o2 ⊢
        refine ⟨fun σ3 H3 => ∃ F3 ρ3, Go G X.K σ F H ρ σ3 F3 H3 ρ3 ∧ OutS G X.K W σ F H ρ (whileL ft f k ρ3) Dn, fun σ3 H3 q => ⟨k, Nat.lt_succ_self k, q⟩, ρ2, F2, g2.sub, g2.sl, ?_⟩
        have gg := g.trans g2
        cases e2 : f ρ2 with
        | nx ρ3 => simp only [e2] at o2; exact fun σ3 F3 H3 g3 => ⟨F3, ρ3, gg.trans g3, o2⟩
        | ct ρ3 => simp only [e2] at o2; exact fun σ3 F3 H3 g3 => ⟨F3, ρ3, gg.trans g3, o2⟩
        | bk ρ3 => simp only [e2] at o2; exact fun σ3 F3 H3 g3 => o2 _ _ _ (gg.trans g3)
        | rt r ρ3 => simp only [e2] at o2; exact fun v σ3 F3 H3 g3 p => o2 _ _ _ _ (gg.trans g3) (p.older gg.there)
        | ex e' ρ3 => simp only [e2] at o2; exact fun cls dx σ3 F3 H3 g3 p => o2 _ _ _ _ _ (gg.trans g3) p
        | no => simp only [e2] at o2; exact o2
end
end U
end part_U9

section part_U10
set_option Elab.async false
set_option linter.all false
set_option maxRecDepth 100000
set_option maxHeartbeats 1000000
/-! U10: what is walked. -/
namespace U
open PySem L2
section
variable {G : Glob} {X : Cx} {W : WX} {e a b c tg : Expr} {es : List Expr} {fa fb fc : EV} {as : AV} {ft : TV} {f : SV} {K : PySem.W.Frag} {pos : Pos} {σ σ1 σ' : L2.St} {F H H0 F1 H1 F' H' : Hp} {ρ ρ1 ρ' : Ro} {o : SR} {Dn Dm : Ends}
theorem bo_lend {m : Option Nat} {b : Addr} (h : Bo σ (lend m ρ) b) : Bo σ ρ b := by
  unfold lend at h
  cases m with
  | none => exact h
  | some i =>
    simp only at h
    split at h
    · obtain ⟨j, q, c, h1, h2⟩ := h
      rcases set_get h1 with ⟨rfl, z⟩ | ⟨hj, h1⟩
      · cases z
      · exact ⟨j, q, c, h1, h2⟩
    · exact h
/-- a list that is walked stays -/
theorem list_stays {r : Rv} {v : V} {ds : List D} (s : Sub F1 H1) (l : SlOk G K F1 H1 σ ρ1) (p : RepR G K H F1 H1 σ ρ1 r v) (e : con ρ1 r = some (.lst ds)) :
    ∃ a xs, v = .ref a ∧ H1 a = some (.lst xs) ∧ RepL G K F1 ds xs ∧ ¬ Bo σ (lend (lendOf ρ1 r) ρ1) a := by
  cases r with
  | v d =>
    cases e
    have p' : Rep G K F1 (.lst ds) v := p
    unfold Rep at p'
    obtain ⟨a, xs, rfl, h1, h2⟩ := p'
    exact ⟨a, xs, rfl, s _ _ h1, h2, fun z => by have := bo_free l z; rw [h1] at this; cases this⟩
  | fr d =>
    cases e
    obtain ⟨a, rfl, h1, ⟨xs, h2, h3⟩, h4, h5⟩ := p
    exact ⟨a, xs, rfl, h2, h3, fun z => h4 z⟩
  | bo i =>
    have p' : σ[i]? = some (some v) := p
    simp only [con] at e
    split at e
    · rename_i q c hq
      cases e
      obtain ⟨w, h1, h2⟩ := l.val i _ _ hq
      rw [p'] at h1; cases h1
      unfold Rep at h2
      obtain ⟨a, xs, rfl, h3, h4⟩ := h2
      exact ⟨a, xs, rfl, s _ _ h3, h4, fun z => by have := bo_free l (bo_lend z); rw [h3] at this; cases this⟩
    · rename_i q c hq
      cases e
      obtain ⟨a, h1, h2, xs, h3, h4⟩ := l.own i _ _ hq
      rw [p'] at h1; cases h1
      refine ⟨a, xs, rfl, h3, h4, fun z => ?_⟩
      have z' : Bo σ (ρ1.set i (some (.lent q (.lst ds)))) a := by
        unfold lendOf lend at z
        simp only [hq] at z
        exact z
      obtain ⟨j, q', c', z1, z2⟩ := z'
      rcases set_get z1 with ⟨rfl, zz⟩ | ⟨hj, z1⟩
      · cases zz
      · exact hj (l.one j i _ _ _ _ a z1 hq z2 p')
    · rename_i q c hq
      cases e
      obtain ⟨a, h1, h2, ⟨xs, h3, h4⟩, h5⟩ := l.lent i _ _ hq
      rw [p'] at h1; cases h1
      exact ⟨a, xs, rfl, h3, h4, fun z => h5 (bo_lend z)⟩
    · cases e
theorem items_list {a : Addr} {ds : List D} {xs : List V} (h1 : H1 a = some (.lst xs)) (h2 : RepL G K F1 ds xs) (nb : ¬ Bo σ ρ1 a) : Items G K (Itl K a) σ F1 H1 ρ1 ds where
  go := fun {σ' F' H' ρ' i} g hi => by
    obtain ⟨x, h3, _⟩ := h2.get (List.getElem?_eq_getElem hi)
    exact ⟨xs, x, SqL.of (g.keep a _ nb h1), h3⟩
  yld := fun {σ' F' H' ρ' i d x H2} g hd ⟨hH, hx⟩ => by
    subst hH
    obtain ⟨y, h3, h4⟩ := h2.get hd
    have := hx xs (SqL.of (g.keep a _ nb h1))
    rw [this] at h3; cases h3
    exact ⟨F', .refl g.sub, Rep.mono g.ff _ _ h4⟩
  stop := fun {σ' F' H' ρ'} g => ⟨xs, SqL.of (g.keep a _ nb h1), by rw [h2.len]; exact Nat.le_refl _⟩
theorem items_tup {a : Addr} {ds : List D} {xs : List V} (h1 : SqT K F1 a xs) (h2 : RepL G K F1 ds xs) : Items G K (Itt K a) σ F1 H1 ρ1 ds where
  go := fun {σ' F' H' ρ' i} g hi => by
    obtain ⟨x, h3, _⟩ := h2.get (List.getElem?_eq_getElem hi)
    exact ⟨xs, x, g.sub.sqT (g.ff.sqT h1), h3⟩
  yld := fun {σ' F' H' ρ' i d x H2} g hd ⟨hH, hx⟩ => by
    subst hH
    obtain ⟨y, h3, h4⟩ := h2.get hd
    have := hx xs (g.sub.sqT (g.ff.sqT h1))
    rw [this] at h3; cases h3
    exact ⟨F', .refl g.sub, Rep.mono g.ff _ _ h4⟩
  stop := fun {σ' F' H' ρ'} g => ⟨xs, g.sub.sqT (g.ff.sqT h1), by rw [h2.len]; exact Nat.le_refl _⟩
theorem rangeD_get {lo : Int} {n i : Nat} {d : D} (h : (rangeD lo n)[i]? = some d) : i < n ∧ d = .int (lo + i) := by
  unfold rangeD at h
  rw [List.getElem?_map] at h
  cases e : (List.range n)[i]? with
  | none => rw [e] at h; cases h
  | some k =>
    rw [e] at h; cases h
    obtain ⟨h1, h2⟩ := List.getElem?_eq_some_iff.mp e
    rw [List.length_range] at h1
    rw [List.getElem_range] at h2
    subst h2
    exact ⟨h1, rfl⟩
theorem rangeD_len {lo : Int} {n : Nat} : (rangeD lo n).length = n := by unfold rangeD; simp
theorem items_range {lo : Int} {n : Nat} : Items G K (Itr lo n) σ F1 H1 ρ1 (rangeD lo n) where
  go := fun {σ' F' H' ρ' i} g hi => by rw [rangeD_len] at hi; exact hi
  yld := fun {σ' F' H' ρ' i d x H2} g hd ⟨hH, hx⟩ => by
    subst hH
    subst hx
    obtain ⟨_, rfl⟩ := rangeD_get hd
    exact ⟨F', .refl g.sub, mk_int⟩
  stop := fun {σ' F' H' ρ'} g => by rw [rangeD_len]; exact Nat.le_refl _
theorem enumD_get : ∀ {ds : List D} {k i : Nat} {d : D}, (enumD k ds)[i]? = some d → ∃ c, ds[i]? = some c ∧ d = .tup [.int ((k + i : Nat) : Int), c]
  | [], k, i, d, h => by simp [enumD] at h
  | c :: ds, k, 0, d, h => by simp [enumD] at h; subst h; exact ⟨c, rfl, by simp⟩
  | c :: ds, k, i + 1, d, h => by
    simp only [enumD, List.getElem?_cons_succ] at h
    obtain ⟨c', h1, h2⟩ := enumD_get h
    exact ⟨c', by simpa using h1, by rw [h2]; congr 4; omega⟩
theorem enumD_len : ∀ {ds : List D} {k : Nat}, (enumD k ds).length = ds.length
  | [], _ => rfl
  | _ :: ds, k => by simp [enumD, enumD_len]
theorem items_enum {a : Addr} {ds : List D} {xs : List V} (h1 : H1 a = some (.lst xs)) (h2 : RepL G K F1 ds xs) (nb : ¬ Bo σ ρ1 a) : Items G K (Ite K a) σ F1 H1 ρ1 (enumD 0 ds) where
  go := fun {σ' F' H' ρ' i} g hi => by
    rw [enumD_len] at hi
    obtain ⟨x, h3, _⟩ := h2.get (List.getElem?_eq_getElem hi)
    exact ⟨xs, x, SqL.of (g.keep a _ nb h1), h3⟩
  yld := fun {σ' F' H' ρ' i d x H2} g hd hy => by
    obtain ⟨T, y, rfl, hT, rfl, hx⟩ := hy
    obtain ⟨c, hc, rfl⟩ := enumD_get hd
    obtain ⟨y', h3, h4⟩ := h2.get hc
    have := hx xs (SqL.of (g.keep a _ nb h1))
    rw [this] at h3; cases h3
    refine ⟨_, .allocF g.sub hT, ?_⟩
    have w := Grow.allocF (u := .tup [.int ((i : Nat) : Int), y]) g.sub hT
    refine rep_of_tup (SqT.of upd_same) (repL_mk ?_ (repL_mk (Rep.mono (g.ff.trans w.ff) _ _ h4) repL_mk0))
    rw [Nat.zero_add]
    exact mk_int
  stop := fun {σ' F' H' ρ'} g => ⟨xs, SqL.of (g.keep a _ nb h1), by rw [enumD_len, h2.len]; exact Nat.le_refl _⟩
theorem items_str {z : Str} : Items G K (Its z) σ F1 H1 ρ1 (z.cps.toList.map (fun c => D.str ⟨#[c]⟩)) where
  go := fun {σ' F' H' ρ' i} g hi => by simp at hi; exact hi
  yld := fun {σ' F' H' ρ' i d x H2} g hd ⟨hH, c, h1, h2⟩ => by
    subst hH
    subst h2
    rw [List.getElem?_map] at hd
    have : z.cps.toList[i]? = some c := by simpa using h1
    rw [this] at hd; cases hd
    exact ⟨F', .refl g.sub, mk_str⟩
  stop := fun {σ' F' H' ρ'} g => by simp [Its]
/-- a list or a tuple -/
theorem pi_seq {tl : TE} (hl : PE X a tl) : PI X tg a (fun σ H R => tl σ H fun x H1 => (∃ q, x = .ref q ∧ (∃ xs, SqL X.K H1 q xs) ∧ R (Itl X.K q) H1) ∨ ∃ q, x = .ref q ∧ (∃ xs, SqT X.K H1 q xs) ∧ R (Itt X.K q) H1) := by
  constructor
  intro pins s σ H R I h
  refine thn (hl.run pins s σ H _ I h) ?_
  rintro v s1 ⟨x, H1, I1, r1, q1 | q1⟩
  · obtain ⟨q, rfl, ⟨xs, hq⟩, hR⟩ := q1
    obtain rfl : v = Value.ref q := r1
    obtain ⟨its, rv, p, hz⟩ := I1.list hq
    refine wpAny_pyIter_list p.isList ?_
    have fresh := I1.fpOk (Nat.le_refl _) (I1.hok.fresh (Nat.le_refl _))
    exact ⟨_, [s1.heap.objs.size], _, _, H1, rfl, I1.kept (t' := s1.toks) (fun b o e => Heap.get?_push_of_some _ e), turn_list q _, ⟨_, Heap.get?_push_size _ rfl, rfl, rfl⟩, fun b hb => by rw [List.mem_singleton] at hb; subst hb; exact fresh, hR⟩
  · obtain ⟨q, rfl, ⟨xs, hq⟩, hR⟩ := q1
    obtain rfl : v = Value.ref q := r1
    obtain ⟨its, rv, p, hz⟩ := I1.tuple hq
    refine wpAny_pyIter_tuple (show s1.heap.IsTuple q its.toArray from p) ?_
    have fresh := I1.fpOk (Nat.le_refl _) (I1.hok.fresh (Nat.le_refl _))
    exact ⟨_, [s1.heap.objs.size], _, _, H1, rfl, I1.kept (t' := s1.toks) (fun b o e => Heap.get?_push_of_some _ e), turn_tuple q _, ⟨_, Heap.get?_push_size _ rfl, rfl, rfl⟩, fun b hb => by rw [List.mem_singleton] at hb; subst hb; exact fresh, hR⟩
/-- the first part of a source -/
theorem src1 {α β : Type} {Rp : RpT α β} {fe : Ro → XR α} {g : α → Ro → XR (List D × Option Nat)} {σ : L2.St} {H : Hp} {ρ : Ro} {F : Hp} {R : It → Hp → Prop} {T : β → Hp → Prop} (s : Sub F H) (l : SlOk G K F H σ ρ) (h : OutW G K W σ F H ρ ((fe ρ).bind g) R)
    (k : ∀ r v ρ1 F1 H1, Go G K σ F H ρ σ F1 H1 ρ1 → Rp H F1 H1 σ ρ1 r v → OutW G K W σ F H ρ (g r ρ1) R → T v H1) : Rd G K W Rp fe σ H T := by
  refine ⟨ρ, F, s, l, ?_⟩
  cases e : fe ρ with
  | ok r ρ1 =>
    simp only [e, XR.bind] at h
    exact fun v F1 H1 g1 p1 => k r v ρ1 F1 H1 g1 p1 h
  | ex e' ρ1 =>
    simp only [e, XR.bind] at h
    exact fun cls dx F1 H1 g1 p1 => h cls dx F1 H1 g1 p1
  | no =>
    simp only [e, XR.bind] at h
    exact h.elim
theorem OutW.ok_ {q : List D × Option Nat} {R : It → Hp → Prop} {J : It} (h : OutW G K W σ F H ρ (.ok q ρ1) R) (g : Go G K σ F H ρ σ F1 H1 ρ1) (i : Items G K J σ F1 H1 (lend q.2 ρ1) q.1) : R J H1 := h J F1 H1 g i
theorem OutW.no_ {R : It → Hp → Prop} {P : Prop} (h : OutW G K W σ F H ρ .no R) : P := h.elim
theorem si_seq (ha : SimE G X W a fa) : SimI G X W tg a (wSeq fa) := ⟨_, pi_seq ha, fun {σ H ρ F R} s l h => src1 s l h fun r v ρ1 F1 H1 g1 p1 h1 => by
  cases e : con ρ1 r with
  | none => simp only [e] at h1; exact h1.no_
  | some d =>
    cases d <;> simp only [e] at h1 <;> try exact h1.no_
    · have a2 : Rep G X.K F1 (.tup _) v := at_of g1.sub g1.sl p1 e
      unfold Rep at a2
      obtain ⟨q, xs, rfl, h2, h3⟩ := a2
      exact .inr ⟨q, rfl, ⟨xs, g1.sub.sqT h2⟩, h1.ok_ g1 (items_tup h2 h3)⟩
    · obtain ⟨q, xs, rfl, h2, h3, h4⟩ := list_stays g1.sub g1.sl p1 e
      exact .inl ⟨q, rfl, ⟨xs, SqL.of h2⟩, h1.ok_ g1 (items_list h2 h3 h4)⟩⟩
theorem small62_iff {i : Int} (h : small62 i = true) : -(2 ^ 62) ≤ i ∧ i < 2 ^ 62 := of_decide_eq_true h
theorem ats_one {d : D} {xs : List V} (h : Ats G K F H [d] xs) : ∃ x, xs = [x] ∧ At G K F H d x := by
  cases h with
  | cons a b => cases b; exact ⟨_, rfl, a⟩
theorem ats_two {d e : D} {xs : List V} (h : Ats G K F H [d, e] xs) : ∃ x y, xs = [x, y] ∧ At G K F H d x ∧ At G K F H e y := by
  cases h with
  | cons a b =>
    obtain ⟨y, rfl, h⟩ := ats_one b
    exact ⟨_, y, rfl, a, h⟩
theorem one_int_iff {o : Option (List D)} {j : Int} (h : one_int o = some j) : o = some [.int j] := by
  unfold one_int at h
  split at h
  · cases h; rfl
  · cases h
theorem two_int_iff {o : Option (List D)} {i j : Int} (h : two_int o = some (i, j)) : o = some [.int i, .int j] := by
  unfold two_int at h
  split at h
  · cases h; rfl
  · cases h
theorem si_rng1 {p : Pos} (hm : X.mg "range" = none) (ha : SimA G X W [a] as) (hg : Gl X "range" := by rfl) (hs : starEach [a] X.env = [(false, eval a X.env)] := by rfl) : SimI G X W tg (.Call (.Name "range" p) [a] [] pos) (wRng1 as) :=
  ⟨_, pi_range1 hg hm ha hs, fun {σ H ρ F R} s l h => src1 s l h fun r v ρ1 F1 H1 g1 p1 h1 => by
    cases e : one_int (r.mapM (con ρ1)) with
    | none => simp only [e] at h1; exact h1.no_
    | some j =>
      simp only [e] at h1
      by_cases hz : small62 j = true
      · rw [if_pos hz] at h1
        obtain ⟨x, rfl, h2⟩ := ats_one (mapM_ats g1 p1 (one_int_iff e))
        exact ⟨j, by rw [at_int h2], (small62_iff hz).1, (small62_iff hz).2, h1.ok_ g1 items_range⟩
      · rw [if_neg hz] at h1; exact h1.no_⟩
theorem si_rng2 {p : Pos} (hm : X.mg "range" = none) (ha : SimA G X W [a, b] as) (hg : Gl X "range" := by rfl) (hs : starEach [a, b] X.env = [(false, eval a X.env), (false, eval b X.env)] := by rfl) (hs2 : starEach [b] X.env = [(false, eval b X.env)] := by rfl) : SimI G X W tg (.Call (.Name "range" p) [a, b] [] pos) (wRng2 as) :=
  ⟨_, pi_range2 hg hm ha hs hs2, fun {σ H ρ F R} s l h => src1 s l h fun r v ρ1 F1 H1 g1 p1 h1 => by
    cases e : two_int (r.mapM (con ρ1)) with
    | none => simp only [e] at h1; exact h1.no_
    | some q =>
      obtain ⟨i, j⟩ := q
      simp only [e] at h1
      by_cases hz : (small62 i && small62 j) = true
      · rw [if_pos hz] at h1
        obtain ⟨z1, z2⟩ := Bool.and_eq_true_iff.mp hz
        obtain ⟨x, y, rfl, h2, h3⟩ := ats_two (mapM_ats g1 p1 (two_int_iff e))
        exact ⟨i, j, by rw [at_int h2, at_int h3], ⟨(small62_iff z1).1, (small62_iff z1).2, (small62_iff z2).1, (small62_iff z2).2⟩, h1.ok_ g1 items_range⟩
      · rw [if_neg hz] at h1; exact h1.no_⟩
theorem si_enum {p tpos : Pos} {elts : List Expr} {kk : Nat} (hm : X.mg "enumerate" = none) (ha : SimA G X W [a] as) (hg : Gl X "enumerate" := by rfl) (hs : starEach [a] X.env = [(false, eval a X.env)] := by rfl) : SimI G X W (.Tuple elts kk tpos) (.Call (.Name "enumerate" p) [a] [] pos) (wEnum as) :=
  ⟨_, pi_enum hg hm ha hs, fun {σ H ρ F R} s l h => src1 s l h fun r v ρ1 F1 H1 g1 p1 h1 => by
    cases e : lstOf (con ρ1 (oneR r)) with
    | none => simp only [e] at h1; exact h1.no_
    | some ds =>
      simp only [e] at h1
      by_cases hz : r.length = 1
      · rw [if_pos hz] at h1
        match r, hz, p1 with
        | [r], _, .cons x .nil _ =>
          have e' : con ρ1 r = some (.lst ds) := by
            unfold lstOf oneR at e
            split at e
            · cases e; assumption
            · cases e
          obtain ⟨q, xs, rfl, h2, h3, h4⟩ := list_stays g1.sub g1.sl x e'
          exact ⟨q, xs, rfl, SqL.of h2, h1.ok_ g1 (items_enum h2 h3 h4)⟩
      · rw [if_neg hz] at h1; exact h1.no_⟩
theorem si_str (ha : SimE G X W a fa) : SimI G X W tg a (wStr fa) := ⟨_, pi_str ha, fun {σ H ρ F R} s l h => src1 s l h fun r v ρ1 F1 H1 g1 p1 h1 => by
  cases e : strOf (con ρ1 r) with
  | none => simp only [e] at h1; exact h1.no_
  | some z =>
    simp only [e] at h1
    have e' : con ρ1 r = some (.str z) := by
      unfold strOf at e
      split at e
      · cases e; assumption
      · cases e
    exact ⟨z, at_str (at_of g1.sub g1.sl p1 e'), h1.ok_ g1 items_str⟩⟩
end
end U
end part_U10

section part_U11
set_option Elab.async false
set_option linter.all false
set_option maxRecDepth 100000
set_option maxHeartbeats 1000000
/-! U11: comprehensions. -/
namespace U
open PySem L2
def wipeR (ρ : Ro) : List Nat → Ro
  | [] => ρ
  | v :: vs => (wipeR ρ vs).set v none
def restore (ρ0 ρ : Ro) : List Nat → Ro
  | [] => ρ
  | v :: vs => (restore ρ0 ρ vs).set v (ρ0.getD v none)
/-- the slots of a comprehension's own names hold no object of their own ahead of it -/
def okHide (ρ : Ro) (vs : List Nat) : Bool := vs.all fun v => match ρ[v]? with
  | some none => true
  | some (some (.val _ _)) => true
  | _ => false
def compL (vs : List Nat) (asg : GV) (tt : TV) (te : EV) : List D → List D → Ro → XR (List D)
  | [], acc, ρ => .ok acc ρ
  | d :: ds, acc, ρ => match asg d ρ with
    | none => .no
    | some ρ1 => match tt ρ1 with
      | .ok true ρ2 => match te ρ2 with
        | .ok r ρ3 => match esc r ρ3 with
          | some (x, ρ4) => if acc.length < big then compL vs asg tt te ds (acc ++ [x]) (wipeR ρ4 vs) else .no
          | none => .no
        | _ => .no
      | .ok false ρ2 => compL vs asg tt te ds acc (wipeR ρ2 vs)
      | _ => .no
theorem compL_cons {vs : List Nat} {asg : GV} {tt : TV} {te : EV} {d : D} {ds acc : List D} {ρ : Ro} : compL vs asg tt te (d :: ds) acc ρ = match asg d ρ with
    | none => .no
    | some ρ1 => match tt ρ1 with
      | .ok true ρ2 => match te ρ2 with
        | .ok r ρ3 => match esc r ρ3 with
          | some (x, ρ4) => if acc.length < big then compL vs asg tt te ds (acc ++ [x]) (wipeR ρ4 vs) else .no
          | none => .no
        | _ => .no
      | .ok false ρ2 => compL vs asg tt te ds acc (wipeR ρ2 vs)
      | _ => .no := rfl
theorem wipeR_idem {vs : List Nat} {ρ : Ro} : wipeR (wipeR ρ vs) vs = wipeR ρ vs := by
  apply List.ext_getElem?
  intro i
  have lw : ∀ {ρ : Ro} {vs : List Nat}, (wipeR ρ vs).length = ρ.length := fun {ρ vs} => by
    induction vs with
    | nil => rfl
    | cons v vs ih => unfold wipeR; rw [List.length_set, ih]
  have wi : ∀ {ρ : Ro} {vs : List Nat}, i ∈ vs → i < ρ.length → (wipeR ρ vs)[i]? = some none := fun {ρ vs} => by
    induction vs with
    | nil => intro h; simp at h
    | cons v vs ih =>
      intro h hl
      unfold wipeR
      by_cases z : v = i
      · subst z; rw [List.getElem?_set_self (by rw [lw]; exact hl)]
      · rw [List.getElem?_set_ne z]
        exact ih (by simpa [Ne.symm z] using h) hl
  have wo : ∀ {ρ : Ro} {vs : List Nat}, i ∉ vs → (wipeR ρ vs)[i]? = ρ[i]? := fun {ρ vs} => by
    induction vs with
    | nil => intro _; rfl
    | cons v vs ih =>
      intro h
      unfold wipeR
      rw [List.getElem?_set_ne (fun z => h (by rw [z]; exact List.mem_cons_self)), ih (fun z => h (List.mem_cons_of_mem _ z))]
  by_cases hi : i ∈ vs
  · by_cases hl : i < ρ.length
    · rw [wi hi (by rw [lw]; exact hl), wi hi hl]
    · rw [List.getElem?_eq_none (by rw [lw, lw]; omega), List.getElem?_eq_none (by rw [lw]; omega)]
  · rw [wo hi]
def eComp (vs : List Nat) (asg : GV) (w : WV) (tt : TV) (te : EV) : EV := fun ρ => (w ρ).bind fun q ρ1 =>
  if okHide (lend q.2 ρ1) vs = true then match compL vs asg tt te q.1 [] (wipeR (lend q.2 ρ1) vs) with
    | .ok acc ρ2 => .ok (.fr (.lst acc)) (back q.2 ρ1 (restore (lend q.2 ρ1) ρ2 vs))
    | _ => .no
  else .no
def tYesU : TV := fun ρ => .ok true ρ
section
variable {G : Glob} {X : Cx} {W : WX} {e a b c tg : Expr} {es : List Expr} {fa fb fc : EV} {as : AV} {ft : TV} {f : SV} {K : PySem.W.Frag} {pos : Pos} {σ σ1 σ' : L2.St} {F H H0 F1 H1 F' H' : Hp} {ρ ρ1 ρ' : Ro} {o : SR} {Dn Dm : Ends} {vs : List Nat}
theorem wipeR_len : ∀ vs : List Nat, (wipeR ρ vs).length = ρ.length
  | [] => rfl
  | v :: vs => by unfold wipeR; rw [List.length_set, wipeR_len vs]
theorem wipeR_out {i : Nat} : ∀ {vs : List Nat}, i ∉ vs → (wipeR ρ vs)[i]? = ρ[i]?
  | [], _ => rfl
  | v :: vs, h => by
    unfold wipeR
    rw [List.getElem?_set_ne (fun z => h (by rw [z]; exact List.mem_cons_self)), wipeR_out (fun z => h (List.mem_cons_of_mem _ z))]
theorem wipeR_in {i : Nat} {s : Sl} : ∀ {vs : List Nat}, (wipeR ρ vs)[i]? = some (some s) → i ∉ vs ∧ ρ[i]? = some (some s)
  | [], h => ⟨by simp, h⟩
  | v :: vs, h => by
    unfold wipeR at h
    rcases set_get h with ⟨_, z⟩ | ⟨hj, h⟩
    · cases z
    · obtain ⟨h1, h2⟩ := wipeR_in h
      exact ⟨by simp [hj, h1], h2⟩
theorem restore_out {ρ0 : Ro} {i : Nat} : ∀ {vs : List Nat}, i ∉ vs → (restore ρ0 ρ vs)[i]? = ρ[i]?
  | [], _ => rfl
  | v :: vs, h => by
    unfold restore
    rw [List.getElem?_set_ne (fun z => h (by rw [z]; exact List.mem_cons_self)), restore_out (fun z => h (List.mem_cons_of_mem _ z))]
theorem restore_len {ρ0 : Ro} : ∀ vs : List Nat, (restore ρ0 ρ vs).length = ρ.length
  | [] => rfl
  | v :: vs => by unfold restore; rw [List.length_set, restore_len vs]
theorem restore_in {ρ0 : Ro} {i : Nat} {s : Sl} : ∀ {vs : List Nat}, (restore ρ0 ρ vs)[i]? = some (some s) → (i ∈ vs ∧ ρ0[i]? = some (some s)) ∨ (i ∉ vs ∧ ρ[i]? = some (some s))
  | [], h => .inr ⟨by simp, h⟩
  | v :: vs, h => by
    unfold restore at h
    rcases set_get h with ⟨hj, z⟩ | ⟨hj, h⟩
    · refine .inl ⟨by simp [hj], ?_⟩
      rw [hj]
      rw [List.getD_eq_getElem?_getD] at z
      cases q : ρ0[v]? with
      | none => rw [q] at z; cases z
      | some u => rw [q] at z; simp at z; rw [z]
    · rcases restore_in h with ⟨h1, h2⟩ | ⟨h1, h2⟩
      · exact .inl ⟨by simp [h1], h2⟩
      · exact .inr ⟨by simp [hj, h1], h2⟩
theorem okHide_val {i : Nat} {s : Sl} (h : okHide ρ vs = true) (hi : i ∈ vs) (e : ρ[i]? = some (some s)) : ∃ p d, s = .val p d := by
  have := List.all_eq_true.mp h i hi
  rw [e] at this
  cases s with
  | val p d => exact ⟨p, d, rfl⟩
  | own p d => cases this
  | lent p d => cases this
  | exc => cases this
theorem wipe_out {i : Nat} : ∀ {vs : List Nat}, i ∉ vs → (wipe σ vs)[i]? = σ[i]?
  | [], _ => rfl
  | v :: vs, h => by
    unfold wipe
    rw [List.getElem?_set_ne (fun z => h (by rw [z]; exact List.mem_cons_self)), wipe_out (fun z => h (List.mem_cons_of_mem _ z))]
theorem wipe_in {i : Nat} (hl : i < σ.length) : ∀ {vs : List Nat}, i ∈ vs → (wipe σ vs)[i]? = some none
  | [], h => by simp at h
  | v :: vs, h => by
    unfold wipe
    by_cases z : v = i
    · subst z
      rw [List.getElem?_set_self (by rw [wipe_length]; exact hl)]
    · rw [List.getElem?_set_ne z]
      exact wipe_in hl (by simpa [Ne.symm z] using h)
theorem wipe_same {σ2 : L2.St} (hl : σ2.length = σ.length) (h : ∀ j, j ∉ vs → σ2[j]? = σ[j]?) : wipe σ2 vs = wipe σ vs := by
  apply List.ext_getElem?
  intro i
  by_cases hi : i ∈ vs
  · by_cases hz : i < σ.length
    · rw [wipe_in (by omega) hi, wipe_in hz hi]
    · rw [List.getElem?_eq_none (by rw [wipe_length]; omega), List.getElem?_eq_none (by rw [wipe_length]; omega)]
  · rw [wipe_out hi, wipe_out hi, h i hi]
theorem bo_wipe {b : Addr} (h : Bo (wipe σ vs) (wipeR ρ vs) b) : Bo σ ρ b := by
  obtain ⟨i, p, d, h1, h2⟩ := h
  obtain ⟨h3, h4⟩ := wipeR_in h1
  rw [wipe_out h3] at h2
  exact ⟨i, p, d, h4, h2⟩
theorem bo_unwipe {b : Addr} (hk : okHide ρ vs = true) (h : Bo σ ρ b) : Bo (wipe σ vs) (wipeR ρ vs) b := by
  obtain ⟨i, p, d, h1, h2⟩ := h
  have hi : i ∉ vs := fun z => by
    obtain ⟨_, _, q⟩ := okHide_val hk z h1
    cases q
  exact ⟨i, p, d, by rw [wipeR_out hi]; exact h1, by rw [wipe_out hi]; exact h2⟩
theorem sl_wipe (l : SlOk G K F H σ ρ) : SlOk G K F H (wipe σ vs) (wipeR ρ vs) where
  len := by rw [wipe_length, wipeR_len]; exact l.len
  val := fun i p d h => by
    obtain ⟨h1, h2⟩ := wipeR_in h
    rw [wipe_out h1]; exact l.val i p d h2
  own := fun i p d h => by
    obtain ⟨h1, h2⟩ := wipeR_in h
    rw [wipe_out h1]; exact l.own i p d h2
  lent := fun i p d h => by
    obtain ⟨h1, h2⟩ := wipeR_in h
    obtain ⟨a, q1, q2, q3, q4⟩ := l.lent i p d h2
    exact ⟨a, by rw [wipe_out h1]; exact q1, q2, q3, fun z => q4 (bo_wipe z)⟩
  one := fun i j p q d e a h h' h1 h2 => by
    obtain ⟨q1, q2⟩ := wipeR_in h
    obtain ⟨q3, q4⟩ := wipeR_in h'
    rw [wipe_out q1] at h1
    rw [wipe_out q3] at h2
    exact l.one i j p q d e a q2 q4 h1 h2
  exc := fun i h => by
    obtain ⟨h1, h2⟩ := wipeR_in h
    rw [wipe_out h1]; exact l.exc i h2
/-- behind a turn the own names are forgotten -/
theorem Go.wiped {ρ0 : Ro} {τ : L2.St} (g : Go G K τ F H (wipeR ρ0 vs) σ1 F1 H1 ρ1) : Go G K τ F H (wipeR ρ0 vs) (wipe σ1 vs) F1 H1 (wipeR ρ1 vs) := by
  refine ⟨g.sub, g.ff, g.keep, g.there, g.new, sl_wipe g.sl, fun b h => g.own b (bo_wipe h), fun i d h => ?_, fun i d h => ?_, fun i p d => ?_, fun i p d h => ?_⟩
  · obtain ⟨h1, h2⟩ := wipeR_in h
    rw [wipe_out h1]; exact g.pinO i d h2
  · obtain ⟨h1, h2⟩ := wipeR_in h
    rw [wipe_out h1]; exact g.pinV i d h2
  · constructor
    · intro h
      exact (g.pinL i p d).mp (wipeR_in h).2
    · intro h
      rw [wipeR_out (wipeR_in h).1]
      exact (g.pinL i p d).mpr h
  · rw [wipe_out (wipeR_in h).1]; exact g.sigL i p d h
/-- behind the whole comprehension the names are what they were -/
theorem Go.unwipe (l : SlOk G K F H σ ρ) (hk : okHide ρ vs = true) (g : Go G K (wipe σ vs) F H (wipeR ρ vs) (wipe σ vs) F1 H1 ρ1) : Go G K σ F H ρ σ F1 H1 (restore ρ ρ1 vs) := by
  have bo1 : ∀ b, Bo σ (restore ρ ρ1 vs) b → Bo (wipe σ vs) ρ1 b := fun b ⟨i, p, d, h1, h2⟩ => by
    rcases restore_in h1 with ⟨q1, q2⟩ | ⟨q1, q2⟩
    · obtain ⟨_, _, q⟩ := okHide_val hk q1 q2
      cases q
    · exact ⟨i, p, d, q2, by rw [wipe_out q1]; exact h2⟩
  have hl : ρ1.length = ρ.length := by rw [← g.sl.len, wipe_length]; exact l.len
  refine ⟨g.sub, g.ff, fun b o hb h => g.keep b o (fun z => hb (bo_wipe z)) h, g.there, fun b h => (g.new b h).imp id (.imp id bo_wipe), ⟨by rw [restore_len, hl]; exact l.len, fun i p d h => ?_, fun i p d h => ?_, fun i p d h => ?_, fun i j p q d e a h h' h1 h2 => ?_, fun i h => by
    rcases restore_in h with ⟨q1, q2⟩ | ⟨q1, q2⟩
    · exact (l.exc i q2).imp id (ExF.mono g.ff)
    · have z := g.sl.exc i q2
      rw [wipe_out q1] at z; exact z⟩, fun b h => (g.own b (bo1 b h)).imp bo_wipe id, fun i d h => ?_, fun i d h => ?_, fun i p d => ?_, fun _ _ _ _ => rfl⟩
  · rcases restore_in h with ⟨q1, q2⟩ | ⟨q1, q2⟩
    · obtain ⟨v, h1, h2⟩ := l.val i p d q2
      exact ⟨v, h1, Rep.mono g.ff _ _ h2⟩
    · obtain ⟨v, h1, h2⟩ := g.sl.val i p d q2
      rw [wipe_out q1] at h1
      exact ⟨v, h1, h2⟩
  · rcases restore_in h with ⟨q1, q2⟩ | ⟨q1, q2⟩
    · obtain ⟨_, _, q⟩ := okHide_val hk q1 q2
      cases q
    · obtain ⟨v, h1, h2⟩ := g.sl.own i p d q2
      rw [wipe_out q1] at h1
      exact ⟨v, h1, h2⟩
  · rcases restore_in h with ⟨q1, q2⟩ | ⟨q1, q2⟩
    · obtain ⟨_, _, q⟩ := okHide_val hk q1 q2
      cases q
    · obtain ⟨v, h1, h2, h3, h4⟩ := g.sl.lent i p d q2
      rw [wipe_out q1] at h1
      exact ⟨v, h1, h2, h3, fun z => h4 (bo1 v z)⟩
  · rcases restore_in h with ⟨q1, q2⟩ | ⟨q1, q2⟩
    · obtain ⟨_, _, q⟩ := okHide_val hk q1 q2
      cases q
    · rcases restore_in h' with ⟨q3, q4⟩ | ⟨q3, q4⟩
      · obtain ⟨_, _, q⟩ := okHide_val hk q3 q4
        cases q
      · exact g.sl.one i j p q d e a q2 q4 (by rw [wipe_out q1]; exact h1) (by rw [wipe_out q3]; exact h2)
  · refine ⟨rfl, ?_⟩
    rcases restore_in h with ⟨q1, q2⟩ | ⟨q1, q2⟩
    · exact ⟨d, q2⟩
    · obtain ⟨_, w, q3⟩ := g.pinO i d q2
      exact ⟨w, (wipeR_in q3).2⟩
  · refine ⟨rfl, ?_⟩
    rcases restore_in h with ⟨q1, q2⟩ | ⟨q1, q2⟩
    · exact ⟨d, .inr q2⟩
    · obtain ⟨_, w, q3⟩ := g.pinV i d q2
      exact ⟨w, q3.imp (fun z => (wipeR_in z).2) fun z => (wipeR_in z).2⟩
  · constructor
    · intro h
      rcases restore_in h with ⟨q1, q2⟩ | ⟨q1, q2⟩
      · exact q2
      · exact (wipeR_in ((g.pinL i p d).mp q2)).2
    · intro h
      have hi : i ∉ vs := fun z => by
        obtain ⟨_, _, q⟩ := okHide_val hk z h
        cases q
      rw [restore_out hi]
      exact (g.pinL i p d).mpr (by rw [wipeR_out hi]; exact h)
/-- an object of nobody's is changed -/
theorem Go.poke {τ : L2.St} {a : Addr} {u : HO} (l : SlOk G K F H τ ρ) (g : Go G K τ F H ρ σ1 F1 H1 ρ1) (n0 : H a = none) (n1 : F1 a = none) (nb : ¬ Bo σ1 ρ1 a) : Go G K τ F H ρ σ1 F1 (upd H1 a u) ρ1 := by
  have nl := fr_notLent (v := .non) (d := .non) l g n0
  refine ⟨fun b o h => by rw [upd_ne (ne_of_none h n1)]; exact g.sub b o h, g.ff, fun b o hb h => by rw [upd_ne (ne_of_none h n0)]; exact g.keep b o hb h, fun b h => ?_, g.new, ⟨g.sl.len, g.sl.val, fun i p d h => ?_, fun i p d h => ?_, g.sl.one, g.sl.exc⟩, g.own, g.pinO, g.pinV, g.pinL, g.sigL⟩
  · unfold upd
    split
    · exact fun z => nomatch z
    · exact g.there b h
  · obtain ⟨b, h1, h2, h3⟩ := g.sl.own i p d h
    have hb : b ≠ a := fun z => nb (by rw [← z]; exact ⟨i, p, d, h, h1⟩)
    exact ⟨b, h1, h2, h3.heap fun o e => by rw [upd_ne hb]; exact e⟩
  · obtain ⟨b, h1, h2, h3, h4⟩ := g.sl.lent i p d h
    have hb : b ≠ a := fun z => nl i p d h (by rw [← z]; exact h1)
    exact ⟨b, h1, h2, h3.heap fun o e => by rw [upd_ne hb]; exact e, h4⟩
abbrev W0 : WX := fun _ _ _ _ => False
theorem rd_comp {wi : TI} {g : TG} {is : List Nat} {asg : GV} {w : WV} {te : EV} {σ : L2.St} {H : Hp} {Q : VK} (k1 : ∀ {σ : L2.St} {H : Hp} {ρ : Ro} {F : Hp} {R : It → Hp → Prop}, Sub F H → SlOk G K F H σ ρ → OutW G K W σ F H ρ (w ρ) R → wi σ H R) (k2 : TgOk G K g is asg) (his : ∀ j ∈ is, j ∈ vs)
    (h : RdE G K W (eComp vs asg w ft te) σ H Q) : tLc wi g (RdT G K W0 ft) (RdE G K W0 te) vs σ H Q := by
  obtain ⟨ρ, F, s, l, o⟩ := h
  refine k1 s l ?_
  unfold eComp at o
  unfold OutW
  cases e : w ρ with
  | no => simp only [e, XR.bind] at o; exact o.elim
  | ex e' ρ1 => simp only [e, XR.bind] at o; exact fun cls dx F1 H1 g p => o cls dx F1 H1 g p
  | ok q ρ1 =>
    simp only [e, XR.bind] at o
    obtain ⟨ds, m⟩ := q
    simp only at o
    intro J F1 H1 g1 it Dl hD
    by_cases hk : okHide (lend m ρ1) vs = true
    case neg => rw [if_neg hk] at o; exact o.no_
    rw [if_pos hk] at o
    have l1 := sl_lendM m g1.sl
    have lw := sl_wipe (vs := vs) l1
    have n0 : H Dl = none := by
      cases q : H Dl with
      | none => rfl
      | some z => exact absurd hD (g1.there Dl (by rw [q]; exact fun z => nomatch z))
    have fD : F1 Dl = none := free_of g1.sub hD
    -- what the rest of the turns makes
    have fin : ∀ {F' H' : Hp} {ρ' : Ro} {acc : List D} {ys : List V}, compL vs asg ft te ds [] (wipeR (lend m ρ1) vs) = .ok acc ρ' → Go G K (wipe σ vs) F1 H1 (wipeR (lend m ρ1) vs) (wipe σ vs) F' H' ρ' → H' Dl = some (.lst ys) → RepL G K F' acc ys → F' Dl = none → ¬ Bo (wipe σ vs) ρ' Dl → Q (.ref Dl) H' := by
      intro F' H' ρ' acc ys e1 gg h1 h2 h3 h4
      simp only [e1] at o
      have g2 := gg.unwipe l1 hk
      refine o.done (g1.trans (g2.unlendM m g1.sl)) ⟨Dl, rfl, h3, ⟨ys, h1, h2⟩, fun z => ?_, n0⟩
      rcases bo_back g1.sl g2 z with z | z
      · obtain ⟨i, p, d, z1, z2⟩ := z
        rcases restore_in z1 with ⟨q1, q2⟩ | ⟨q1, q2⟩
        · obtain ⟨_, _, q⟩ := okHide_val hk q1 q2
          cases q
        · exact h4 ⟨i, p, d, q2, by rw [wipe_out q1]; exact z2⟩
      · exact z hD
    have start := Go.refl g1.sub lw
    refine ⟨fun i n H' => n = ds.length - i ∧ i ≤ ds.length ∧ ∃ F' ρ' acc ys, Go G K (wipe σ vs) F1 H1 (wipeR (lend m ρ1) vs) (wipe σ vs) F' H' ρ' ∧ H' Dl = some (.lst ys) ∧ RepL G K F' acc ys ∧ F' Dl = none ∧ ¬ Bo (wipe σ vs) ρ' Dl ∧ compL vs asg ft te (ds.drop i) acc ρ' = compL vs asg ft te ds [] (wipeR (lend m ρ1) vs) ∧ wipeR ρ' vs = ρ', ⟨_, rfl, Nat.zero_le _, F1, _, [], [], start.alloc hD, upd_same, repL_mk0, fD, fun z => bo_some lw z hD, rfl, wipeR_idem⟩, ?_⟩
    rintro i n H' ⟨rfl, hi, F', ρ', acc, ys, g, h1, h2, h3, h4, hc, hww⟩
    have gJ : Go G K σ F1 H1 (lend m ρ1) σ F' H' (restore (lend m ρ1) ρ' vs) := g.unwipe l1 hk
    by_cases hlt : i < ds.length
    · obtain ⟨d, hd⟩ : ∃ d, ds[i]? = some d := ⟨ds[i], List.getElem?_eq_getElem hlt⟩
      rw [drop_get hd, compL_cons] at hc
      -- the outcome is something
      have some_ : ∀ {P : Prop}, XR.no = compL vs asg ft te ds [] (wipeR (lend m ρ1) vs) → P := fun z => by rw [← z] at o; exact o.no_
      cases e1 : asg d ρ' with
      | none => simp only [e1] at hc; exact some_ hc
      | some ρ2 =>
        simp only [e1] at hc
        refine .inr ⟨it.go gJ hlt, fun H2 => ∃ F2 ρ2 acc ys, Go G K (wipe σ vs) F1 H1 (wipeR (lend m ρ1) vs) (wipe σ vs) F2 H2 ρ2 ∧ H2 Dl = some (.lst ys) ∧ RepL G K F2 acc ys ∧ F2 Dl = none ∧ ¬ Bo (wipe σ vs) ρ2 Dl ∧ compL vs asg ft te (ds.drop (i + 1)) acc ρ2 = compL vs asg ft te ds [] (wipeR (lend m ρ1) vs) ∧ wipeR ρ2 vs = ρ2, fun H2 ⟨F2, ρ2, acc, ys, q⟩ => ⟨ds.length - (i + 1), by omega, rfl, hlt, F2, ρ2, acc, ys, q⟩, ?_⟩
        intro x H2 hy
        obtain ⟨F2, w2, r2⟩ := it.yld gJ hd hy
        have gw := (Go.refl g.sub g.sl).grow w2
        have hD2 : H2 Dl = some (.lst ys) := w2.hh _ _ h1
        have fD2 : F2 Dl = none := by
          cases q : F2 Dl with
          | none => rfl
          | some o =>
            rcases w2.new Dl (by rw [q]; exact fun z => nomatch z) with z | z
            · exact absurd h3 z
            · rw [h1] at z; cases z
        refine k2 g.sl gw r2 e1 fun σ2 g2 hlen hσ => ?_
        have sameS : wipe σ2 vs = wipe σ vs := by
          refine wipe_same (by rw [hlen, wipe_length]) fun j hj => ?_
          rw [hσ j (fun z => hj (his j z)), wipe_out hj]
        refine ⟨sameS, ρ2, F2, g2.sub, g2.sl, ?_⟩
        have nbo : ∀ {F3 H3 : Hp} {ρ3 : Ro}, Go G K (wipe σ vs) F' H' ρ' σ2 F3 H3 ρ3 → ¬ Bo σ2 ρ3 Dl := fun g3 z => by
          rcases g3.own _ z with z | z
          · exact h4 z
          · rw [h1] at z; cases z
        have nbw : ∀ {ρ3 : Ro}, ¬ Bo σ2 ρ3 Dl → ¬ Bo (wipe σ vs) (wipeR ρ3 vs) Dl := fun k z => by
          rw [← sameS] at z
          exact k (bo_wipe z)
        have wiped : ∀ {F3 H3 : Hp} {ρ3 : Ro}, Go G K (wipe σ vs) F' H' ρ' σ2 F3 H3 ρ3 → Go G K (wipe σ vs) F1 H1 (wipeR (lend m ρ1) vs) (wipe σ vs) F3 H3 (wipeR ρ3 vs) := fun {F3 H3 ρ3} g3 => by
          have := (g.trans g3).wiped
          rw [sameS] at this
          exact this
        have keepD : ∀ {F3 H3 : Hp} {ρ3 : Ro}, Go G K σ2 F2 H2 ρ2 σ2 F3 H3 ρ3 → H3 Dl = some (.lst ys) ∧ F3 Dl = none := fun {F3 H3 ρ3} g3 => by
          refine ⟨g3.keep _ _ (nbo g2) hD2, ?_⟩
          cases q : F3 Dl with
          | none => rfl
          | some o =>
            rcases g3.new Dl (by rw [q]; exact fun z => nomatch z) with z | z | z
            · exact absurd fD2 z
            · rw [hD2] at z; cases z
            · exact absurd z (nbo g2)
        cases e2 : ft ρ2 with
        | no => simp only [e2] at hc; exact some_ hc
        | ex e' ρ3 => simp only [e2] at hc; exact some_ hc
        | ok b ρ3 =>
          simp only [e2] at hc
          intro b' F3 H3 g3 p3
          have p3' : b = b' := p3
          subst p3'
          have gg := g2.trans g3
          obtain ⟨hD3, fD3⟩ := keepD g3
          cases b with
          | false =>
            rw [if_neg (by decide)]
            exact ⟨F3, wipeR ρ3 vs, acc, ys, wiped gg, hD3, RepL.mono (w2.ff.trans g3.ff) _ _ h2, fD3, nbw (nbo gg), hc, wipeR_idem⟩
          | true =>
            rw [if_pos rfl]
            refine ⟨ρ3, F3, g3.sub, g3.sl, ?_⟩
            cases e3 : te ρ3 with
            | no => simp only [e3] at hc; exact some_ hc
            | ex e' ρ4 => simp only [e3] at hc; exact some_ hc
            | ok r ρ4 =>
              simp only [e3] at hc
              intro y F4 H4 g4 p4
              cases e4 : esc r ρ4 with
              | none => simp only [e4] at hc; exact some_ hc
              | some q =>
                obtain ⟨x', ρ5⟩ := q
                simp only [e4] at hc
                obtain ⟨F5, g5, r5, s5, n5, b5⟩ := esc_go g3.sl g4 p4 e4
                have gg5 := gg.trans g5
                obtain ⟨hD5, fD5⟩ := keepD (g3.trans g5)
                by_cases hlen : acc.length < big
                case neg => rw [if_neg hlen] at hc; exact some_ hc
                rw [if_pos hlen] at hc
                have hyl : ys.length = acc.length := h2.len.symm
                refine ⟨ys, hD5, by rw [hyl]; exact Nat.lt_of_lt_of_le hlen (big_le (Nat.le_refl _)), F5, wipeR ρ5 vs, acc ++ [x'], ys ++ [y], (wiped gg5).poke lw hD fD5 (nbw (nbo gg5)), upd_same, (RepL.mono (w2.ff.trans (g3.ff.trans g5.ff)) _ _ h2).append (repL_mk r5 repL_mk0), fD5, nbw (nbo gg5), hc, wipeR_idem⟩
    · have hi' : i = ds.length := by omega
      subst hi'
      rw [List.drop_length] at hc
      refine .inl ⟨it.stop gJ, fin hc.symm g h1 h2 h3 h4⟩
end
end U
end part_U11

section part_U12
set_option Elab.async false
set_option linter.all false
set_option maxRecDepth 100000
set_option maxHeartbeats 1000000
/-! U12: calls of own defs. -/
namespace U
open PySem L2
/-- the slot that the callee gets for an argument; an own object is lent, to be had back -/
def argS (ρ : Ro) : Rv → Option (Option Sl)
  | .v d => some (some (.val false d))
  | .fr _ => none
  | .bo i => match ρ[i]? with
    | some (some (.val _ d)) => some (some (.val false d))
    | some (some (.own _ d)) => some (some (.own true d))
    | some (some (.lent _ d)) => some (some (.lent true d))
    | _ => none
def lendA (ρ : Ro) : List Rv → Option Ro
  | [] => some []
  | r :: rs => match argS ρ r with
    | none => none
    | some s => match lendA ρ rs with
      | none => none
      | some ss => some (s :: ss)
def ownIx (ρ : Ro) : Rv → Option Nat
  | .bo i => match ρ[i]? with
    | some (some (.own _ _)) => some i
    | _ => none
  | _ => none
/-- no object is lent twice -/
def okBo (ρ : Ro) : List Rv → Bool
  | [] => true
  | r :: rs => (match ownIx ρ r with
    | none => true
    | some i => rs.all fun q => ownIx ρ q != some i) && okBo ρ rs
def setB (x : Option (Option Sl)) (s : Option Sl) : Option Sl := match x with
  | some (some (.own p _)) => match s with
    | some (.own true d) => some (.own p d)
    | some (.val true d) => some (.val p d)
    | _ => none
  | _ => none
theorem setB_some {x : Option (Option Sl)} {s : Option Sl} {s2 : Sl} (h : setB x s = some s2) : ∃ p c d, x = some (some (.own p c)) ∧ ((s = some (.own true d) ∧ s2 = .own p d) ∨ (s = some (.val true d) ∧ s2 = .val p d)) := by
  unfold setB at h
  split at h
  · rename_i p c
    split at h
    · rename_i d
      cases h; exact ⟨p, c, d, rfl, .inl ⟨rfl, rfl⟩⟩
    · rename_i d
      cases h; exact ⟨p, c, d, rfl, .inr ⟨rfl, rfl⟩⟩
    · cases h
  · cases h
def backA (ρ0 : Ro) : List Rv → Ro → Ro → Option Ro
  | [], _, ρ => some ρ
  | r :: rs, [], ρ => none
  | r :: rs, s :: ss, ρ => match backA ρ0 rs ss ρ with
    | none => none
    | some ρ1 => match ownIx ρ0 r with
      | none => some ρ1
      | some i => match setB ρ0[i]? s with
        | none => none
        | some s2 => some (ρ1.set i (some s2))
/-- what the callee answers, as the caller sees it -/
def resB (rs : List Rv) : Rv → Option Rv
  | .v d => some (.v d)
  | .fr d => some (.fr d)
  | .bo j => match rs[j]? with
    | some (.bo i) => some (.bo i)
    | some (.v d) => some (.v d)
    | _ => none
def callR (fv : EV) (rs : List Rv) (ρ : Ro) : XR Rv :=
  if okBo ρ rs = true then match lendA ρ rs with
    | none => .no
    | some ρa => match fv ρa with
      | .ok r ρ' => match backA ρ rs ρ' ρ, resB rs r with
        | some ρ2, some r2 => .ok r2 ρ2
        | _, _ => .no
      | .ex e ρ' => match backA ρ rs ρ' ρ with
        | some ρ2 => .ex e ρ2
        | none => .no
      | .no => .no
  else .no
/-- one by one -/
inductive RepP (G : Glob) (K : PySem.W.Frag) (H0 F H : Hp) (σ : L2.St) (ρ : Ro) : List Rv → List V → Prop
  | nil : RepP G K H0 F H σ ρ [] []
  | cons {r : Rv} {v : V} {rs : List Rv} {vs : List V} : RepR G K H0 F H σ ρ r v → RepP G K H0 F H σ ρ rs vs → RepP G K H0 F H σ ρ (r :: rs) (v :: vs)
section
variable {G : Glob} {X : Cx} {W : WX} {K : PySem.W.Frag} {σ σ1 σ' : L2.St} {F H H0 F1 H1 F' H' : Hp} {ρ ρ1 ρ2 ρ' ρa : Ro} {rs : List Rv} {vs : List V}
theorem RepRs.pw (h : RepRs G K H0 F H σ ρ rs vs) : RepP G K H0 F H σ ρ rs vs := by
  induction h with
  | nil => exact .nil
  | cons a b c ih => exact .cons a ih
theorem RepP.go (h : RepP G K H0 F H σ ρ rs vs) (g : Go G K σ F H ρ σ F' H' ρ') : RepP G K H0 F' H' σ ρ' rs vs := by
  induction h with
  | nil => exact .nil
  | cons a b ih => exact .cons (a.go g) ih
theorem RepP.append {rs' : List Rv} {vs' : List V} (h : RepP G K H0 F H σ ρ rs vs) (h' : RepP G K H0 F H σ ρ rs' vs') : RepP G K H0 F H σ ρ (rs ++ rs') (vs ++ vs') := by
  induction h with
  | nil => exact h'
  | cons a b ih => exact .cons a ih
theorem RepP.older (h : RepP G K H1 F H' σ ρ rs vs) (g : ∀ b, H b ≠ none → H1 b ≠ none) : RepP G K H F H' σ ρ rs vs := by
  induction h with
  | nil => exact .nil
  | cons a b ih => exact .cons (a.older g) ih
theorem RepP.get {i : Nat} {r : Rv} (h : RepP G K H0 F H σ ρ rs vs) (e : rs[i]? = some r) : ∃ v, vs[i]? = some v ∧ RepR G K H0 F H σ ρ r v := by
  induction h generalizing i with
  | nil => simp at e
  | cons a b ih =>
    cases i with
    | zero => simp at e; subst e; exact ⟨_, rfl, a⟩
    | succ i => simpa using ih (i := i) (by simpa using e)
theorem RepP.len (h : RepP G K H0 F H σ ρ rs vs) : rs.length = vs.length := by
  induction h with
  | nil => rfl
  | cons a b ih => simp [ih]
theorem lendA_get : ∀ {rs : List Rv} {ρa : Ro} {j : Nat} {s : Option Sl}, lendA ρ rs = some ρa → ρa[j]? = some s → ∃ r, rs[j]? = some r ∧ argS ρ r = some s
  | [], ρa, j, s, h, e => by cases h; simp at e
  | r :: rs, ρa, j, s, h, e => by
    simp only [lendA] at h
    cases e1 : argS ρ r with
    | none => rw [e1] at h; cases h
    | some s1 =>
      cases e2 : lendA ρ rs with
      | none => rw [e1, e2] at h; cases h
      | some ss =>
        rw [e1, e2] at h; cases h
        cases j with
        | zero => simp at e; subst e; exact ⟨r, rfl, e1⟩
        | succ j => simpa using lendA_get e2 (by simpa using e)
theorem lendA_len : ∀ {rs : List Rv} {ρa : Ro}, lendA ρ rs = some ρa → ρa.length = rs.length
  | [], ρa, h => by cases h; rfl
  | r :: rs, ρa, h => by
    simp only [lendA] at h
    cases e1 : argS ρ r with
    | none => rw [e1] at h; cases h
    | some s1 =>
      cases e2 : lendA ρ rs with
      | none => rw [e1, e2] at h; cases h
      | some ss => rw [e1, e2] at h; cases h; simp [lendA_len e2]
theorem okBo_one : ∀ {rs : List Rv} {i j n : Nat} {r q : Rv}, okBo ρ rs = true → rs[i]? = some r → rs[j]? = some q → ownIx ρ r = some n → ownIx ρ q = some n → i = j
  | [], i, j, n, r, q, h, e1, _, _, _ => by simp at e1
  | x :: rs, i, j, n, r, q, h, e1, e2, h1, h2 => by
    simp only [okBo, Bool.and_eq_true] at h
    obtain ⟨ha, hb⟩ := h
    cases i with
    | zero =>
      cases j with
      | zero => rfl
      | succ j =>
        simp at e1 e2; subst e1
        rw [h1] at ha
        have := List.all_eq_true.mp ha q (List.mem_of_getElem? e2)
        simp [h2] at this
    | succ i =>
      cases j with
      | zero =>
        simp at e1 e2; subst e2
        rw [h2] at ha
        have := List.all_eq_true.mp ha r (List.mem_of_getElem? e1)
        simp [h1] at this
      | succ j =>
        have z := okBo_one (i := i) (j := j) hb (by simpa using e1) (by simpa using e2) h1 h2
        rw [z]
theorem argS_own {r : Rv} {p : Bool} {d : D} (h : argS ρ r = some (some (.own p d))) : ∃ i q, r = .bo i ∧ ρ[i]? = some (some (.own q d)) ∧ p = true ∧ ownIx ρ r = some i := by
  cases r with
  | v d' => simp [argS] at h
  | fr d' => simp [argS] at h
  | bo i =>
    simp only [argS] at h
    split at h
    · cases h
    · rename_i q c hq
      cases h
      exact ⟨i, q, rfl, hq, rfl, by simp [ownIx, hq]⟩
    · cases h
    · cases h
theorem argS_lent {r : Rv} {p : Bool} {d : D} (h : argS ρ r = some (some (.lent p d))) : ∃ i q, r = .bo i ∧ ρ[i]? = some (some (.lent q d)) := by
  cases r with
  | v d' => simp [argS] at h
  | fr d' => simp [argS] at h
  | bo i =>
    simp only [argS] at h
    split at h
    · cases h
    · cases h
    · rename_i q c hq
      cases h
      exact ⟨i, q, rfl, hq⟩
    · cases h
theorem argS_val {r : Rv} {p : Bool} {d : D} (h : argS ρ r = some (some (.val p d))) : r = .v d ∨ ∃ i q, r = .bo i ∧ ρ[i]? = some (some (.val q d)) := by
  cases r with
  | v d' => simp only [argS] at h; cases h; exact .inl rfl
  | fr d' => simp [argS] at h
  | bo i =>
    simp only [argS] at h
    split at h
    · rename_i q c hq
      cases h
      exact .inr ⟨i, q, rfl, hq⟩
    · cases h
    · cases h
    · cases h
theorem vmap_get {i : Nat} {v : V} : (vs.map some)[i]? = some (some v) ↔ vs[i]? = some v := by
  rw [List.getElem?_map]
  cases vs[i]? <;> simp
theorem lend_bo {a : Addr} (P : RepP G K H0 F1 H1 σ ρ1 rs vs) (hl : lendA ρ1 rs = some ρa) (h : Bo (vs.map some) ρa a) : ∃ (j i : Nat) (q : Bool) (d : D), rs[j]? = some (.bo i) ∧ ρ1[i]? = some (some (.own q d)) ∧ σ[i]? = some (some (.ref a)) ∧ ownIx ρ1 (.bo i) = some i ∧ ρa[j]? = some (some (.own true d)) ∧ vs[j]? = some (.ref a) := by
  obtain ⟨j, p, d, h1, h2⟩ := h
  obtain ⟨r, e1, e2⟩ := lendA_get hl h1
  obtain ⟨i, q, rfl, e3, rfl, e4⟩ := argS_own e2
  obtain ⟨v, e5, e6⟩ := P.get e1
  have e6' : σ[i]? = some (some v) := e6
  rw [vmap_get] at h2
  rw [e5] at h2; cases h2
  exact ⟨j, i, q, d, e1, e3, e6', e4, h1, e5⟩
/-- the callee's slots -/
theorem sl_lendA (l : SlOk G K F1 H1 σ ρ1) (P : RepP G K H0 F1 H1 σ ρ1 rs vs) (hl : lendA ρ1 rs = some ρa) (hb : okBo ρ1 rs = true) : SlOk G K F1 H1 (vs.map some) ρa where
  len := by rw [List.length_map, lendA_len hl, P.len]
  val := fun j p d h => by
    obtain ⟨r, e1, e2⟩ := lendA_get hl h
    obtain ⟨v, e5, e6⟩ := P.get e1
    refine ⟨v, vmap_get.mpr e5, ?_⟩
    rcases argS_val e2 with rfl | ⟨i, q, rfl, e3⟩
    · exact e6
    · obtain ⟨w, h1, h2⟩ := l.val i q d e3
      have e6' : σ[i]? = some (some v) := e6
      rw [e6'] at h1; cases h1
      exact h2
  own := fun j p d h => by
    obtain ⟨r, e1, e2⟩ := lendA_get hl h
    obtain ⟨v, e5, e6⟩ := P.get e1
    obtain ⟨i, q, rfl, e3, rfl, e4⟩ := argS_own e2
    obtain ⟨a, h1, h2, h3⟩ := l.own i q d e3
    have e6' : σ[i]? = some (some v) := e6
    rw [e6'] at h1; cases h1
    exact ⟨a, vmap_get.mpr e5, h2, h3⟩
  lent := fun j p d h => by
    obtain ⟨r, e1, e2⟩ := lendA_get hl h
    obtain ⟨v, e5, e6⟩ := P.get e1
    obtain ⟨i, q, rfl, e3⟩ := argS_lent e2
    obtain ⟨a, h1, h2, h3, h4⟩ := l.lent i q d e3
    have e6' : σ[i]? = some (some v) := e6
    rw [e6'] at h1; cases h1
    refine ⟨a, vmap_get.mpr e5, h2, h3, fun z => ?_⟩
    obtain ⟨j2, i2, q2, d2, z1, z2, z3, _⟩ := lend_bo P hl z
    exact h4 ⟨i2, q2, d2, z2, z3⟩
  one := fun j k p q d e a h h' h1 h2 => by
    obtain ⟨r, e1, e2⟩ := lendA_get hl h
    obtain ⟨v, e5, e6⟩ := P.get e1
    obtain ⟨i, q1, rfl, e3, rfl, e4⟩ := argS_own e2
    obtain ⟨r', f1, f2⟩ := lendA_get hl h'
    obtain ⟨v', f5, f6⟩ := P.get f1
    obtain ⟨i', q1', rfl, f3, rfl, f4⟩ := argS_own f2
    rw [vmap_get] at h1 h2
    rw [h1] at e5; cases e5
    rw [h2] at f5; cases f5
    have : i = i' := l.one i i' q1 q1' d e a e3 f3 e6 f6
    subst this
    exact okBo_one hb e1 f1 e4 f4
  exc := fun j h => by
    obtain ⟨r, e1, e2⟩ := lendA_get hl h
    cases r with
    | v d => simp only [argS] at e2; cases e2
    | fr d => simp only [argS] at e2; cases e2
    | bo i =>
      simp only [argS] at e2
      split at e2 <;> cases e2
theorem ownIx_own {r : Rv} {i : Nat} (h : ownIx ρ r = some i) : r = .bo i ∧ ∃ p d, ρ[i]? = some (some (.own p d)) := by
  cases r with
  | v d => cases h
  | fr d => cases h
  | bo j =>
    simp only [ownIx] at h
    split at h
    · rename_i p d hq
      cases h
      exact ⟨rfl, p, d, hq⟩
    · cases h
/-- what is given back -/
theorem backA_get {ρ0 : Ro} : ∀ {rs : List Rv} {ss ρ ρ2 : Ro}, backA ρ0 rs ss ρ = some ρ2 →
    ρ2.length = ρ.length ∧ (∀ i : Nat, (∀ (j : Nat) (r : Rv), rs[j]? = some r → ownIx ρ0 r ≠ some i) → ρ2[i]? = ρ[i]?) ∧
    ∀ (j : Nat) (r : Rv) (i : Nat), rs[j]? = some r → ownIx ρ0 r = some i → okBo ρ0 rs = true → i < ρ.length → ∃ (p : Bool) (d d' : D), ρ0[i]? = some (some (.own p d)) ∧ ((ss[j]? = some (some (.own true d')) ∧ ρ2[i]? = some (some (.own p d'))) ∨ (ss[j]? = some (some (.val true d')) ∧ ρ2[i]? = some (some (.val p d'))))
  | [], ss, ρ, ρ2, h => by
    cases ss <;> (simp only [backA] at h; cases h; exact ⟨rfl, fun _ _ => rfl, fun j r i e => by simp at e⟩)
  | r :: rs, [], ρ, ρ2, h => by simp [backA] at h
  | r :: rs, s :: ss, ρ, ρ2, h => by
    simp only [backA] at h
    cases e1 : backA ρ0 rs ss ρ with
    | none => rw [e1] at h; cases h
    | some ρ1 =>
      rw [e1] at h
      obtain ⟨i1, i2, i3⟩ := backA_get e1
      cases e2 : ownIx ρ0 r with
      | none =>
        rw [e2] at h; cases h
        refine ⟨i1, fun i hi => i2 i fun j q hq => hi (j + 1) q (by simpa using hq), fun j q i hj hq hok hlt => ?_⟩
        simp only [okBo, e2, Bool.true_and] at hok
        cases j with
        | zero => simp at hj; subst hj; rw [e2] at hq; cases hq
        | succ j => simpa using i3 j q i (by simpa using hj) hq hok hlt
      | some n =>
        rw [e2] at h
        simp only at h
        cases e3 : setB ρ0[n]? s with
        | none => rw [e3] at h; cases h
        | some s2 =>
          rw [e3] at h; cases h
          obtain ⟨p, c, d', hp, hh⟩ := setB_some e3
          refine ⟨by rw [List.length_set]; exact i1, fun i hi => ?_, fun j q i hj hq hok hlt => ?_⟩
          · have hni : n ≠ i := fun z => hi 0 r rfl (by rw [e2, z])
            rw [List.getElem?_set_ne hni]
            exact i2 i fun j q hq => hi (j + 1) q (by simpa using hq)
          · have hok0 := hok
            simp only [okBo, Bool.and_eq_true] at hok
            cases j with
            | zero =>
              simp at hj; subst hj
              rw [e2] at hq; cases hq
              refine ⟨p, c, d', hp, ?_⟩
              rw [List.getElem?_set_self (by rw [i1]; exact hlt)]
              rcases hh with ⟨rfl, rfl⟩ | ⟨rfl, rfl⟩
              · exact .inl ⟨rfl, rfl⟩
              · exact .inr ⟨rfl, rfl⟩
            | succ j =>
              have hni : n ≠ i := fun z => by
                have := okBo_one (i := 0) (j := j + 1) (n := n) hok0 rfl hj e2 (by rw [hq, z])
                omega
              rw [List.getElem?_set_ne hni]
              simpa using i3 j q i (by simpa using hj) hq hok.2 hlt
/-- the caller's slots behind the call -/
theorem call_back (l : SlOk G K F1 H1 σ ρ1) (P : RepP G K H0 F1 H1 σ ρ1 rs vs) (hl : lendA ρ1 rs = some ρa) (hb : okBo ρ1 rs = true) (g : Go G K (vs.map some) F1 H1 ρa (vs.map some) F' H' ρ') (hk : backA ρ1 rs ρ' ρ1 = some ρ2) : Go G K σ F1 H1 ρ1 σ F' H' ρ2 := by
  obtain ⟨b1, b2, b3⟩ := backA_get hk
  have old : ∀ b, Bo (vs.map some) ρa b → Bo σ ρ1 b := fun b z => by
    obtain ⟨j, i, q, d, _, z2, z3, _⟩ := lend_bo P hl z
    exact ⟨i, q, d, z2, z3⟩
  -- a slot is as it was, or lent and given back
  have cases_ : ∀ i : Nat, i < ρ1.length → (ρ2[i]? = ρ1[i]? ∧ ∀ (j : Nat) (r : Rv), rs[j]? = some r → ownIx ρ1 r ≠ some i) ∨ ∃ (j : Nat) (p : Bool) (d d' : D) (a : Addr), rs[j]? = some (.bo i) ∧ ownIx ρ1 (.bo i) = some i ∧ ρ1[i]? = some (some (.own p d)) ∧ σ[i]? = some (some (.ref a)) ∧ vs[j]? = some (.ref a) ∧ ((ρ'[j]? = some (some (.own true d')) ∧ ρ2[i]? = some (some (.own p d'))) ∨ (ρ'[j]? = some (some (.val true d')) ∧ ρ2[i]? = some (some (.val p d')))) := by
    intro i hi
    by_cases hx : ∃ (j : Nat) (r : Rv), rs[j]? = some r ∧ ownIx ρ1 r = some i
    · obtain ⟨j, r, hj, hr⟩ := hx
      obtain ⟨rfl, _⟩ := ownIx_own hr
      obtain ⟨p, d, d', e1, e2⟩ := b3 j _ i hj hr hb hi
      obtain ⟨a, h1, h2, h3⟩ := l.own i p d e1
      obtain ⟨v, e5, e6⟩ := P.get hj
      have e6' : σ[i]? = some (some v) := e6
      rw [e6'] at h1; cases h1
      exact .inr ⟨j, p, d, d', a, hj, hr, e1, e6', e5, e2⟩
    · refine .inl ⟨b2 i fun j r hj hr => hx ⟨j, r, hj, hr⟩, fun j r hj hr => hx ⟨j, r, hj, hr⟩⟩
  have lt2 : ∀ {i : Nat} {s : Option Sl}, ρ2[i]? = some s → i < ρ1.length := fun h => by rw [← b1]; exact (List.getElem?_eq_some_iff.mp h).1
  have notLent : ∀ {i : Nat} {p : Bool} {d : D} {a : Addr}, ρ1[i]? = some (some (.own p d)) → σ[i]? = some (some (.ref a)) → (∀ (j : Nat) (r : Rv), rs[j]? = some r → ownIx ρ1 r ≠ some i) → ¬ Bo (vs.map some) ρa a := fun {i p d a} h1 h2 h3 z => by
    obtain ⟨j, i2, q, d2, z1, z2, z3, z4, _⟩ := lend_bo P hl z
    have := l.one i i2 p q d d2 a h1 z2 h2 z3
    subst this
    exact h3 j _ z1 z4
  have stay : ∀ {a : Addr} {d : D}, F1 a = none → OwnAt G K F1 H1 a d → ¬ Bo (vs.map some) ρa a → F' a = none ∧ OwnAt G K F' H' a d := fun {a d} h2 h3 h4 => by
    refine ⟨?_, (h3.heap fun o e => g.keep a o h4 e).mono g.ff⟩
    cases q : F' a with
    | none => rfl
    | some o =>
      rcases g.new a (by rw [q]; exact fun z => nomatch z) with z | z | z
      · exact absurd h2 z
      · exact absurd z h3.some_
      · exact absurd z h4
  have bo2 : ∀ b, Bo σ ρ2 b → Bo σ ρ1 b := fun b ⟨i, p, d, h1, h2⟩ => by
    rcases cases_ i (lt2 h1) with ⟨e, _⟩ | ⟨j, q, c, d', a, _, _, e1, _⟩
    · rw [e] at h1; exact ⟨i, p, d, h1, h2⟩
    · exact ⟨i, q, c, e1, h2⟩
  refine ⟨g.sub, g.ff, fun b o hn h => g.keep b o (fun z => hn (old b z)) h, g.there, fun b h => (g.new b h).imp id (.imp id (old b)), ⟨by rw [b1]; exact l.len, fun i p d h => ?_, fun i p d h => ?_, fun i p d h => ?_, fun i j p q d e a h h' h1 h2 => ?_, fun i h => by
    rcases cases_ i (lt2 h) with ⟨e, _⟩ | ⟨j, q, c, d', a, _, _, e1, e2, e3, e4⟩
    · exact (l.exc i (e ▸ h)).imp id (ExF.mono g.ff)
    · rcases e4 with ⟨f1, f2⟩ | ⟨f1, f2⟩ <;> (rw [f2] at h; cases h)⟩, fun b h => .inl (bo2 b h), fun i d h => ?_, fun i d h => ?_, fun i p d => ?_, fun _ _ _ _ => rfl⟩
  · rcases cases_ i (lt2 h) with ⟨e, _⟩ | ⟨j, q, c, d', a, _, _, e1, e2, e3, e4⟩
    · rw [e] at h
      obtain ⟨v, h1, h2⟩ := l.val i p d h
      exact ⟨v, h1, Rep.mono g.ff _ _ h2⟩
    · rcases e4 with ⟨f1, f2⟩ | ⟨f1, f2⟩
      · rw [f2] at h; cases h
      · rw [f2] at h; cases h
        obtain ⟨v, h1, h2⟩ := g.sl.val j _ _ f1
        rw [vmap_get, e3] at h1; cases h1
        exact ⟨_, e2, h2⟩
  · rcases cases_ i (lt2 h) with ⟨e, n⟩ | ⟨j, q, c, d', a, _, _, e1, e2, e3, e4⟩
    · rw [e] at h
      obtain ⟨a, h1, h2, h3⟩ := l.own i p d h
      obtain ⟨q1, q2⟩ := stay h2 h3 (notLent h h1 n)
      exact ⟨a, h1, q1, q2⟩
    · rcases e4 with ⟨f1, f2⟩ | ⟨f1, f2⟩
      · rw [f2] at h; cases h
        obtain ⟨v, h1, h2, h3⟩ := g.sl.own j _ _ f1
        rw [vmap_get, e3] at h1; cases h1
        exact ⟨_, e2, h2, h3⟩
      · rw [f2] at h; cases h
  · rcases cases_ i (lt2 h) with ⟨e, n⟩ | ⟨j, q, c, d', a, _, _, e1, e2, e3, e4⟩
    · rw [e] at h
      obtain ⟨a, h1, h2, h3, h4⟩ := l.lent i p d h
      obtain ⟨q1, q2⟩ := stay h2 h3 (fun z => h4 (old a z))
      exact ⟨a, h1, q1, q2, fun z => h4 (bo2 a z)⟩
    · rcases e4 with ⟨f1, f2⟩ | ⟨f1, f2⟩ <;> (rw [f2] at h; cases h)
  · obtain ⟨p', d', h3⟩ : ∃ p' d', ρ1[i]? = some (some (.own p' d')) := by
      rcases cases_ i (lt2 h) with ⟨e, _⟩ | ⟨_, q, c, _, _, _, _, e1, _⟩
      · exact ⟨_, _, e ▸ h⟩
      · exact ⟨_, _, e1⟩
    obtain ⟨p2, d2, h4⟩ : ∃ p' d', ρ1[j]? = some (some (.own p' d')) := by
      rcases cases_ j (lt2 h') with ⟨e, _⟩ | ⟨_, q, c, _, _, _, _, e1, _⟩
      · exact ⟨_, _, e ▸ h'⟩
      · exact ⟨_, _, e1⟩
    exact l.one i j _ _ _ _ a h3 h4 h1 h2
  · refine ⟨rfl, ?_⟩
    rcases cases_ i (lt2 h) with ⟨e, _⟩ | ⟨j, q, c, d', a, _, _, e1, e2, e3, e4⟩
    · exact ⟨d, e ▸ h⟩
    · rcases e4 with ⟨f1, f2⟩ | ⟨f1, f2⟩
      · rw [f2] at h; cases h; exact ⟨_, e1⟩
      · rw [f2] at h; cases h
  · refine ⟨rfl, ?_⟩
    rcases cases_ i (lt2 h) with ⟨e, _⟩ | ⟨j, q, c, d', a, _, _, e1, e2, e3, e4⟩
    · exact ⟨d, .inr (e ▸ h)⟩
    · rcases e4 with ⟨f1, f2⟩ | ⟨f1, f2⟩
      · rw [f2] at h; cases h
      · rw [f2] at h; cases h; exact ⟨_, .inl e1⟩
  · constructor
    · intro h
      rcases cases_ i (lt2 h) with ⟨e, _⟩ | ⟨j, q, c, d', a, _, _, e1, e2, e3, e4⟩
      · exact e ▸ h
      · rcases e4 with ⟨f1, f2⟩ | ⟨f1, f2⟩ <;> (rw [f2] at h; cases h)
    · intro h
      have hi : i < ρ1.length := (List.getElem?_eq_some_iff.mp h).1
      rcases cases_ i hi with ⟨e, _⟩ | ⟨j, q, c, d', a, _, _, e1, e2, e3, e4⟩
      · rw [e]; exact h
      · rw [e1] at h; cases h
theorem bo_give (l : SlOk G K F1 H1 σ ρ1) (hk : backA ρ1 rs ρ' ρ1 = some ρ2) {b : Addr} (h : Bo σ ρ2 b) (hb : okBo ρ1 rs = true) : Bo σ ρ1 b := by
  obtain ⟨b1, b2, b3⟩ := backA_get hk
  obtain ⟨i, p, d, h1, h2⟩ := h
  have hi : i < ρ1.length := by rw [← b1]; exact (List.getElem?_eq_some_iff.mp h1).1
  by_cases hx : ∃ (j : Nat) (r : Rv), rs[j]? = some r ∧ ownIx ρ1 r = some i
  · obtain ⟨j, r, hj, hr⟩ := hx
    obtain ⟨rfl, p', d', e⟩ := ownIx_own hr
    exact ⟨i, p', d', e, h2⟩
  · rw [b2 i fun j r hj hr => hx ⟨j, r, hj, hr⟩] at h1
    exact ⟨i, p, d, h1, h2⟩
/-- what the callee answers, here -/
theorem res_back {r r2 : Rv} {v : V} (l : SlOk G K F1 H1 σ ρ1) (P : RepP G K H0 F1 H1 σ ρ1 rs vs) (hb : okBo ρ1 rs = true) (g : Go G K (vs.map some) F1 H1 ρa (vs.map some) F' H' ρ') (hk : backA ρ1 rs ρ' ρ1 = some ρ2) (p : RepR G K H1 F' H' (vs.map some) ρ' r v) (e : resB rs r = some r2) : RepR G K H1 F' H' σ ρ2 r2 v := by
  cases r with
  | v d => cases e; exact p
  | fr d =>
    cases e
    obtain ⟨a, h1, h2, h3, h4, h5⟩ := p
    exact ⟨a, h1, h2, h3, fun z => bo_some l (bo_give l hk z hb) h5, h5⟩
  | bo j =>
    have p' : vs[j]? = some v := vmap_get.mp p
    simp only [resB] at e
    cases q : rs[j]? with
    | none => rw [q] at e; cases e
    | some r =>
      rw [q] at e
      obtain ⟨w, h1, h2⟩ := P.get q
      rw [p'] at h1; cases h1
      cases r with
      | v d => cases e; exact Rep.mono g.ff _ _ h2
      | fr d => cases e
      | bo i => cases e; exact h2
/-- a call: from what the callee promises -/
theorem out_call {fv : EV} {Q : VK} (l : SlOk G K F1 H1 σ ρ1) (P : RepP G K H0 F1 H1 σ ρ1 rs vs) (s : Sub F1 H1) (o : Out G K W (RepR G K) σ F1 H1 ρ1 (callR fv rs ρ1) Q) : ∃ ρa, SlOk G K F1 H1 (vs.map some) ρa ∧ Out G K (fun c d _ H' => W c d σ H') (RepR G K) (vs.map some) F1 H1 ρa (fv ρa) Q := by
  unfold callR at o
  by_cases hb : okBo ρ1 rs = true
  case neg => rw [if_neg hb] at o; exact o.elim
  rw [if_pos hb] at o
  cases hl : lendA ρ1 rs with
  | none => simp only [hl] at o; exact o.elim
  | some ρa =>
    simp only [hl] at o
    refine ⟨ρa, sl_lendA l P hl hb, ?_⟩
    cases e : fv ρa with
    | no => simp only [e] at o; exact o.elim
    | ok r ρ' =>
      simp only [e] at o
      cases hk : backA ρ1 rs ρ' ρ1 with
      | none => simp only [hk] at o; exact o.elim
      | some ρ2 =>
        cases hr : resB rs r with
        | none => simp only [hk, hr] at o; exact o.elim
        | some r2 =>
          simp only [hk, hr] at o
          exact fun v F' H' g p => o v F' H' (call_back l P hl hb g hk) (res_back l P hb g hk p hr)
    | ex e' ρ' =>
      simp only [e] at o
      cases hk : backA ρ1 rs ρ' ρ1 with
      | none => simp only [hk] at o; exact o.elim
      | some ρ2 =>
        simp only [hk] at o
        exact fun cls dx F' H' g p => o cls dx F' H' (call_back l P hl hb g hk) p
end
end U
end part_U12

section part_U13
set_option Elab.async false
set_option linter.all false
set_option maxRecDepth 100000
set_option maxHeartbeats 1000000
/-! U13: what a def promises, and its calls. -/
namespace U
open PySem PyProof.Rows L2
abbrev WE (E : XK) : WX := fun c d _ H => E c d H
/-- what of the parameters' slots is left for the caller -/
def isBox : D → Bool
  | .lst _ => true
  | .obj _ _ _ => true
  | .dct _ _ => true
  | _ => false
def out1 (a : Option Sl) (b : Option (Option Sl)) : Option (Option Sl) := match a with
  | some (.own true _) => match b with
    | some (some (.own true d)) => some (some (.own true d))
    | some (some (.val true d)) => if isBox d = true then some (some (.val true d)) else none
    | _ => none
  | some (.own false _) => none
  | some (.lent p d) => some (some (.lent p d))
  | _ => some none
def outs : Ro → Ro → Option Ro
  | [], _ => some []
  | a :: as, bs => match out1 a bs[0]?, outs as (bs.drop 1) with
    | some x, some xs => some (x :: xs)
    | _, _ => none
def resR (ρ : Ro) : Rv → Option Rv
  | .v d => some (.v d)
  | .fr d => some (.fr d)
  | .bo i => match ρ[i]? with
    | some (some (.val _ d)) => some (.v d)
    | some (some (.own true _)) => some (.bo i)
    | some (some (.own false d)) => some (.fr d)
    | some (some (.lent _ _)) => some (.bo i)
    | _ => none
/-- a def by its body: m more names than parameters -/
def bodyV (m : Nat) (f : SV) : EV := fun ρ0 => match f (ρ0 ++ List.replicate m none) with
  | .nx ρ' => match outs ρ0 ρ' with
    | some ρ2 => .ok (.v .non) ρ2
    | none => .no
  | .rt r ρ' => match outs ρ0 ρ', resR ρ' r with
    | some ρ2, some r2 => .ok r2 ρ2
    | _, _ => .no
  | .ex e ρ' => match outs ρ0 ρ' with
    | some ρ2 => .ex e ρ2
    | none => .no
  | _ => .no
section
variable {G : Glob} {X : Cx} {W : WX} {K : PySem.W.Frag} {σ σ1 σ' : L2.St} {F H H0 F1 H1 F' H' : Hp} {ρ ρ0 ρ1 ρ2 ρ' ρa : Ro} {rs : List Rv} {vs : List V}
theorem outs_get : ∀ {ρ0 ρ' ρ2 : Ro} {i : Nat}, outs ρ0 ρ' = some ρ2 → ρ2.length = ρ0.length ∧ ∀ a, ρ0[i]? = some a → ∃ x, out1 a ρ'[i]? = some x ∧ ρ2[i]? = some x
  | [], ρ', ρ2, i, h => by cases h; exact ⟨rfl, fun a e => by simp at e⟩
  | b :: bs, ρ', ρ2, i, h => by
    simp only [outs] at h
    cases e1 : out1 b ρ'[0]? with
    | none => rw [e1] at h; cases h
    | some x =>
      cases e2 : outs bs (ρ'.drop 1) with
      | none => rw [e1, e2] at h; cases h
      | some xs =>
        rw [e1, e2] at h; cases h
        refine ⟨by simp [(outs_get (i := 0) e2).1], fun a e => ?_⟩
        cases i with
        | zero => simp at e; subst e; exact ⟨x, e1, rfl⟩
        | succ i =>
          obtain ⟨y, h1, h2⟩ := (outs_get (i := i) e2).2 a (by simpa using e)
          rw [List.getElem?_drop, Nat.add_comm] at h1
          exact ⟨y, h1, by simpa using h2⟩
theorem out1_own {a : Option Sl} {b : Option (Option Sl)} {p : Bool} {d : D} (h : out1 a b = some (some (.own p d))) : p = true ∧ b = some (some (.own true d)) ∧ ∃ e, a = some (.own true e) := by
  unfold out1 at h
  split at h
  · rename_i e
    split at h
    · cases h; exact ⟨rfl, rfl, e, rfl⟩
    · split at h <;> cases h
    · cases h
  · cases h
  · cases h
  · cases h
theorem out1_val {a : Option Sl} {b : Option (Option Sl)} {p : Bool} {d : D} (h : out1 a b = some (some (.val p d))) : p = true ∧ b = some (some (.val true d)) ∧ ∃ e, a = some (.own true e) := by
  unfold out1 at h
  split at h
  · rename_i e
    split at h
    · cases h
    · split at h
      · cases h; exact ⟨rfl, rfl, e, rfl⟩
      · cases h
    · cases h
  · cases h
  · cases h
  · cases h
theorem out1_lent {a : Option Sl} {b : Option (Option Sl)} {p : Bool} {d : D} (h : out1 a b = some (some (.lent p d))) : a = some (.lent p d) := by
  unfold out1 at h
  split at h
  · split at h
    · cases h
    · split at h <;> cases h
    · cases h
  · cases h
  · cases h; rfl
  · cases h
theorem out1_exc {P : Prop} {a : Option Sl} {b : Option (Option Sl)} (h : out1 a b = some (some .exc)) : P := by
  unfold out1 at h
  split at h
  · split at h
    · cases h
    · split at h <;> cases h
    · cases h
  · cases h
  · cases h
  · cases h
theorem out1_from {e : D} {p : Bool} {b x : Option (Option Sl)} {y : Option Sl} (h : out1 (some (.own p e)) b = some y) : p = true ∧ ((∃ d, b = some (some (.own true d)) ∧ y = some (.own true d)) ∨ ∃ d, b = some (some (.val true d)) ∧ y = some (.val true d) ∧ isBox d = true) := by
  cases p with
  | false => simp [out1] at h
  | true =>
    refine ⟨rfl, ?_⟩
    simp only [out1] at h
    split at h
    · rename_i d
      cases h; exact .inl ⟨d, rfl, rfl⟩
    · rename_i d
      split at h
      · cases h; exact .inr ⟨d, rfl, rfl, by assumption⟩
      · cases h
    · cases h
/-- the slots ahead, with more names behind -/
theorem app_none {m i : Nat} {s : Sl} (h : (ρ0 ++ List.replicate m none)[i]? = some (some s)) : ρ0[i]? = some (some s) := by
  by_cases hi : i < ρ0.length
  · rw [List.getElem?_append_left hi] at h; exact h
  · rw [List.getElem?_append_right (by omega), List.getElem?_replicate] at h
    split at h <;> cases h
theorem app_get {m i : Nat} {s : Sl} (h : ρ0[i]? = some (some s)) : (ρ0 ++ List.replicate m none)[i]? = some (some s) := by
  rw [List.getElem?_append_left (List.getElem?_eq_some_iff.mp h).1]; exact h
theorem st_get {m i : Nat} (hi : i < vs.length) : ((vs.map some ++ List.replicate m none : L2.St))[i]? = (vs.map some)[i]? := List.getElem?_append_left (by simpa using hi)
theorem bo_app {m : Nat} {a : Addr} (hl : vs.length = ρ0.length) : Bo (vs.map some ++ List.replicate m none) (ρ0 ++ List.replicate m none) a ↔ Bo (vs.map some) ρ0 a := by
  constructor
  · rintro ⟨i, p, d, h1, h2⟩
    have h1' := app_none h1
    rw [st_get (by rw [hl]; exact (List.getElem?_eq_some_iff.mp h1').1)] at h2
    exact ⟨i, p, d, h1', h2⟩
  · rintro ⟨i, p, d, h1, h2⟩
    refine ⟨i, p, d, app_get h1, ?_⟩
    rw [st_get (by rw [hl]; exact (List.getElem?_eq_some_iff.mp h1).1)]
    exact h2
theorem sl_start {m : Nat} (l : SlOk G K F H (vs.map some) ρ0) : SlOk G K F H (vs.map some ++ List.replicate m none) (ρ0 ++ List.replicate m none) := by
  have hl : vs.length = ρ0.length := by simpa using l.len
  have lt : ∀ {i : Nat} {s : Sl}, ρ0[i]? = some (some s) → i < vs.length := fun h => by rw [hl]; exact (List.getElem?_eq_some_iff.mp h).1
  refine ⟨by simp [hl], fun i p d h => ?_, fun i p d h => ?_, fun i p d h => ?_, fun i j p q d e a h h' h1 h2 => ?_, fun i h => by
    have h := app_none h
    rw [st_get (lt h)]; exact l.exc i h⟩
  · have h := app_none h
    rw [st_get (lt h)]; exact l.val i p d h
  · have h := app_none h
    rw [st_get (lt h)]; exact l.own i p d h
  · have h := app_none h
    rw [st_get (lt h)]
    obtain ⟨a, q1, q2, q3, q4⟩ := l.lent i p d h
    exact ⟨a, q1, q2, q3, fun z => q4 ((bo_app hl).mp z)⟩
  · have h := app_none h
    have h' := app_none h'
    rw [st_get (lt h)] at h1
    rw [st_get (lt h')] at h2
    exact l.one i j p q d e a h h' h1 h2
/-- behind the body, the parameters alone -/
theorem Go.outs {m : Nat} (l : SlOk G K F H (vs.map some) ρ0) (g : Go G K (vs.map some ++ List.replicate m none) F H (ρ0 ++ List.replicate m none) σ' F' H' ρ') (ho : outs ρ0 ρ' = some ρ2) : Go G K (vs.map some) F H ρ0 (vs.map some) F' H' ρ2 ∧
    (∀ b, Bo (vs.map some) ρ2 b → Bo σ' ρ' b) ∧ (∀ {i : Nat} {p : Bool} {d : D}, ρ2[i]? = some (some (.own p d)) → p = true ∧ ρ'[i]? = some (some (.own true d)) ∧ σ'[i]? = (vs.map some)[i]?) := by
  have hl : vs.length = ρ0.length := by simpa using l.len
  have len2 := (outs_get (i := 0) ho).1
  have at_ : ∀ {i : Nat} {s : Option Sl}, ρ2[i]? = some s → ∃ a, ρ0[i]? = some a ∧ out1 a ρ'[i]? = some s ∧ i < vs.length := fun {i s} h => by
    have hi : i < ρ0.length := by rw [← len2]; exact (List.getElem?_eq_some_iff.mp h).1
    obtain ⟨x, h1, h2⟩ := (outs_get (i := i) ho).2 _ (List.getElem?_eq_getElem hi)
    rw [h] at h2; cases h2
    exact ⟨_, List.getElem?_eq_getElem hi, h1, by omega⟩
  have ownE : ∀ {i : Nat} {p : Bool} {d : D}, ρ2[i]? = some (some (.own p d)) → p = true ∧ ρ'[i]? = some (some (.own true d)) ∧ σ'[i]? = (vs.map some)[i]? ∧ ∃ e : D, ρ0[i]? = some (some (.own true e)) := fun {i p d} h => by
    obtain ⟨a, h1, h2, h3⟩ := at_ h
    obtain ⟨rfl, q1, e, rfl⟩ := out1_own h2
    exact ⟨rfl, q1, by rw [(g.pinO i d q1).1, st_get h3], e, h1⟩
  have bo : ∀ b, Bo (vs.map some) ρ2 b → Bo σ' ρ' b := fun b ⟨i, p, d, h1, h2⟩ => by
    obtain ⟨_, q1, q2, _⟩ := ownE h1
    exact ⟨i, true, d, q1, q2.trans h2⟩
  refine ⟨⟨g.sub, g.ff, fun b o hb h => g.keep b o (fun z => hb ((bo_app hl).mp z)) h, g.there, fun b h => (g.new b h).imp id (.imp id (bo_app hl).mp), ⟨by rw [len2]; exact l.len, fun i p d h => ?_, fun i p d h => ?_, fun i p d h => ?_, fun i j p q d e a h h' h1 h2 => ?_, fun i h => by
    obtain ⟨a, h1, h2, h3⟩ := at_ h
    exact out1_exc h2⟩, fun b h => (g.own b (bo b h)).imp (bo_app hl).mp id, fun i d h => ?_, fun i d h => ?_, fun i p d => ?_, fun _ _ _ _ => rfl⟩, bo, fun h => let ⟨a, b, c, _⟩ := ownE h; ⟨a, b, c⟩⟩
  · obtain ⟨a, h1, h2, h3⟩ := at_ h
    obtain ⟨rfl, q1, e, rfl⟩ := out1_val h2
    obtain ⟨v, q2, q3⟩ := g.sl.val i _ d q1
    rw [(g.pinV i d q1).1, st_get h3] at q2
    exact ⟨v, q2, q3⟩
  · obtain ⟨rfl, q1, q2, _⟩ := ownE h
    obtain ⟨a, q3, q4⟩ := g.sl.own i _ d q1
    exact ⟨a, by rw [← q2]; exact q3, q4⟩
  · obtain ⟨a, h1, h2, h3⟩ := at_ h
    have := out1_lent h2
    subst this
    have hL := app_get (m := m) h1
    obtain ⟨b, q1, q2, q3, q4⟩ := g.sl.lent i p d ((g.pinL i p d).mpr hL)
    rw [g.sigL i p d hL, st_get h3] at q1
    exact ⟨b, q1, q2, q3, fun z => q4 (bo b z)⟩
  · obtain ⟨_, q1, q2, _⟩ := ownE h
    obtain ⟨_, q3, q4, _⟩ := ownE h'
    exact g.sl.one i j true true d e a q1 q3 (q2.trans h1) (q4.trans h2)
  · obtain ⟨_, _, _, q⟩ := ownE h
    exact ⟨rfl, q⟩
  · obtain ⟨a, h1, h2, h3⟩ := at_ h
    obtain ⟨_, q1, e, rfl⟩ := out1_val h2
    exact ⟨rfl, e, .inl h1⟩
  · constructor
    · intro h
      obtain ⟨a, h1, h2, h3⟩ := at_ h
      have := out1_lent h2
      subst this
      exact h1
    · intro h
      obtain ⟨x, h1, h2⟩ := (outs_get (i := i) ho).2 _ h
      simp only [out1] at h1
      cases h1
      exact h2
theorem box_some {d : D} {a : Addr} (h : Rep G K F d (.ref a)) (hb : isBox d = true) : F a ≠ none := by
  cases d <;> first | (cases hb; done) | skip
  all_goals (unfold Rep at h)
  · obtain ⟨b, xs, e, h1, _⟩ := h
    cases e; rw [h1]; exact fun z => nomatch z
  · obtain ⟨b, dx, gs, e, h1, _⟩ := h
    cases e; rw [h1]; exact fun z => nomatch z
  · obtain ⟨b, kvs, e, h1, _⟩ := h
    cases e; rw [h1]; exact fun z => nomatch z
/-- the answer, as the caller of the body has it -/
theorem res_out {m : Nat} {r r2 : Rv} {v : V} (l : SlOk G K F H (vs.map some) ρ0) (g : Go G K (vs.map some ++ List.replicate m none) F H (ρ0 ++ List.replicate m none) σ' F' H' ρ') (ho : outs ρ0 ρ' = some ρ2) (p : RepR G K H F' H' σ' ρ' r v) (e : resR ρ' r = some r2) : RepR G K H F' H' (vs.map some) ρ2 r2 v := by
  have hl : vs.length = ρ0.length := by simpa using l.len
  obtain ⟨g2, bo, ownE⟩ := g.outs l ho
  cases r with
  | v d => cases e; exact p
  | fr d =>
    cases e
    obtain ⟨a, h1, h2, h3, h4, h5⟩ := p
    exact ⟨a, h1, h2, h3, fun z => h4 (bo a z), h5⟩
  | bo i =>
    have p' : σ'[i]? = some (some v) := p
    simp only [resR] at e
    split at e
    · rename_i q d hq
      cases e
      obtain ⟨w, h1, h2⟩ := g.sl.val i _ d hq
      rw [p'] at h1; cases h1
      exact h2
    · rename_i d hq
      cases e
      obtain ⟨h1, e', h2⟩ := g.pinO i d hq
      have h3 := app_none h2
      rw [p', st_get (by rw [hl]; exact (List.getElem?_eq_some_iff.mp h3).1)] at h1
      exact h1.symm
    · rename_i d hq
      cases e
      obtain ⟨a, h1, h2, h3⟩ := g.sl.own i _ d hq
      rw [p'] at h1; cases h1
      refine ⟨a, rfl, h2, h3, fun z => ?_, ?_⟩
      · obtain ⟨j, q, c, z1, z2⟩ := z
        obtain ⟨rfl, z3, z4⟩ := ownE z1
        have := g.sl.one j i _ _ c d a z3 hq (z4.trans z2) p'
        subst this
        rw [z3] at hq; cases hq
      · rcases g.own a ⟨i, _, d, hq, p'⟩ with z | z
        · -- the object of a parameter
          obtain ⟨j, q, c, z1, z2⟩ := (bo_app hl).mp z
          have hj : j < vs.length := by rw [hl]; exact (List.getElem?_eq_some_iff.mp z1).1
          obtain ⟨x, q1, q2⟩ := (outs_get (i := j) ho).2 _ z1
          obtain ⟨rfl, q3⟩ := out1_from (x := none) q1
          rcases q3 with ⟨d', f1, _⟩ | ⟨d', f1, _, f3⟩
          · have := g.sl.one j i _ _ d' d a f1 hq (by rw [(g.pinO j d' f1).1, st_get hj]; exact z2) p'
            subst this
            rw [f1] at hq; cases hq
          · obtain ⟨w, k1, k2⟩ := g.sl.val j _ d' f1
            rw [(g.pinV j d' f1).1, st_get hj, z2] at k1
            cases k1
            exact absurd h2 (box_some k2 f3)
        · exact z
    · rename_i q d hq
      cases e
      have h2 := (g.pinL i q d).mp hq
      have h3 := app_none h2
      have h1 := g.sigL i q d h2
      rw [p', st_get (by rw [hl]; exact (List.getElem?_eq_some_iff.mp h3).1)] at h1
      exact h1.symm
    · cases e
end
/-- the promise of a def -/
structure FnU (G : Glob) (P : Program) (w : World) (K : PySem.W.Frag) (mg : Str → Option Value) (base : Heap) (k : Nat) (f : Addr) (fd : FuncData) (ps : List Str) (fv : EV) : Prop where
  run : ∀ (A : Around) (outer : List Env) (s : Shared) (H : Hp) (args : Args) (us : List Value) (vs : List V) (Q : VK) (E : XK) (F : Hp) (ρ : Ro), Room k A → A.guards = some [] → Env0 P w K mg base A outer s H → BindsTo s fd args (ps.zip us) → Vals vs us → vs.length = ps.length →
    Sub F H → SlOk G K F H (vs.map some) ρ → Out G K (WE E) (RepR G K) (vs.map some) F H ρ (fv ρ) Q → codeAny (model P w) A (.call (.ref f) args) (CR (L2.CX P w) outer P w H s Q E) s
theorem FnU.mono {G : Glob} {P : Program} {w : World} {K : PySem.W.Frag} {mg : Str → Option Value} {base : Heap} {j k : Nat} {f : Addr} {fd : FuncData} {ps : List Str} {fv : EV} (h : FnU G P w K mg base j f fd ps fv) (hk : j ≤ k) : FnU G P w K mg base k f fd ps fv :=
  ⟨fun A outer s H args us vs Q E F ρ hr => h.run A outer s H args us vs Q E F ρ (hr.mono hk)⟩
theorem deeper_guards {A : Around} {env : Env} (h : A.guards = some []) : (A.deeper env).guards = some [] := h
/-- a def of the text keeps its promise -/
theorem fnU_of {G : Glob} {P : Program} {w : World} {K : PySem.W.Frag} {mg : Str → Option Value} {base : Heap} {k m : Nat} {f : Addr} {name qual : Str} {params : Arguments} {body : List Stmt} {scope : Scope} {dV kV doc pm cdv ct oc : Value} {an od : Option Addr}
    {osl : Array (Option Value)} {N ps : List Str} {fb : SV} (lk : K.lookup f = some ⟨oc, od, .func (PySem.W.fnOf name qual params body scope dV kV doc pm an cdv ct), osl⟩) (hcd : PySem.W.codeIn K cdv qual = true) (S : FnScope N ps scope) (hm : N.length = ps.length + m)
    (hbody : ∀ (A : Around) (outer : List Env) (s : Shared) (H : Hp) (E : XK), Room k (A.deeper (envOfC qual scope s.heap.objs.size f cdv)) → (A.deeper (envOfC qual scope s.heap.objs.size f cdv)).guards = some [] →
      SimB G (cxOf (L2.CX P w) P w K mg base N qual scope f cdv A outer s H E) (WE E) body fb) : FnU G P w K mg base (k + 1) f (PySem.W.fnOf name qual params body scope dV kV doc pm an cdv ct) ps (bodyV m fb) :=
  ⟨fun A outer s H args us vs Q E F ρ hr hg e0 hb rv hl sF sl o => by
    have inK : K.In s.heap := e0.mod.kin.keeps fun b x e => (e0.bs b x e).1
    have noLim : s.heap.NoLimit := e0.mod.nolimit.keeps fun b x e => (e0.bs b x e).1
    refine codeAny_call_function hr.depth (inK _ _ lk) rfl S.co S.gen rfl (PySem.W.codeRec_of inK hcd) (hb _ _ _ _ (wpAny_newFunctionEnv_cells S.kind (fun y hy => ?_) fun env he s1 x => ?_))
    · obtain ⟨n, v⟩ := y
      exact (S.par n (List.of_mem_zip hy).1).imp id fun q => ⟨q, PySem.W.cellsFrom_some _ _ _ (.inl q)⟩
    · subst he
      refine ⟨noLim.keeps x.toInCall.keep, codeAny_func ?_⟩
      have J := inv_start (CX := L2.CX P w) (E := E) S hr.hd e0 hl rv x
      have hst : L2.start N vs = vs.map some ++ List.replicate m none := by
        unfold L2.start
        rw [hm, hl, Nat.add_sub_cancel_left]
      have body0 : RdS G K (WE E) fb { nx := fun _ H' => Q .non H', rt := Q } (L2.start N vs) H := by
        rw [hst]
        refine ⟨_, F, sF, sl_start sl, ?_⟩
        unfold bodyV at o
        cases e : fb (ρ ++ List.replicate m none) with
        | no => simp only [e] at o; exact o
        | bk ρ' => simp only [e] at o; exact o.elim
        | ct ρ' => simp only [e] at o; exact o.elim
        | nx ρ' =>
          simp only [e] at o
          cases e1 : outs ρ ρ' with
          | none => simp only [e1] at o; exact o.elim
          | some ρ2 =>
            simp only [e1] at o
            exact fun σ' F' H' g => o .non F' H' (g.outs sl e1).1 rfl
        | rt r ρ' =>
          simp only [e] at o
          cases e1 : outs ρ ρ' with
          | none => simp only [e1] at o; exact o.elim
          | some ρ2 =>
            cases e2 : resR ρ' r with
            | none => simp only [e1, e2] at o; exact o.elim
            | some r2 =>
              simp only [e1, e2] at o
              exact fun v σ' F' H' g p => o v F' H' (g.outs sl e1).1 (res_out sl g e1 p e2)
        | ex e' ρ' =>
          simp only [e] at o
          cases e1 : outs ρ ρ' with
          | none => simp only [e1] at o; exact o.elim
          | some ρ2 =>
            simp only [e1] at o
            exact fun cls dx σ' F' H' g p => o cls dx F' H' (g.outs sl e1).1 p
      refine wpAny_mono ((hbody A outer s H E (hr.deeper _) (deeper_guards hg)).run [] s1 (L2.start N vs) H _ J body0) (fun fl s' hs => ?_) fun _ _ z => z
      cases fl with
      | next =>
        obtain ⟨τ, H', J', q⟩ := hs
        exact ⟨.non, H', J'.os, J'.bare, J'.base, J'.hok, rfl, q⟩
      | ret u =>
        obtain ⟨v, τ, H', J', r', q⟩ := hs
        exact ⟨v, H', J'.os, J'.bare, J'.base, J'.hok, r', q⟩
      | brk =>
        obtain ⟨_, _, _, q⟩ := hs
        exact q.elim
      | cont =>
        obtain ⟨_, _, _, q⟩ := hs
        exact q.elim⟩
end U
end part_U13

section part_U14
set_option Elab.async false
set_option linter.all false
set_option maxRecDepth 100000
set_option maxHeartbeats 1000000
/-! U14: the call's node: own defs, methods, classes. -/
namespace U
open PySem PyProof.Rows L2
/-- the parameters: of the written ones, of the defaults -/
abbrev Pk := List (Sum Nat Nat)
def pickL {α : Type} : Pk → List α → List α → Option (List α)
  | [], _, _ => some []
  | .inl i :: pk, xs, ds => match xs[i]?, pickL pk xs ds with
    | some x, some r => some (x :: r)
    | _, _ => none
  | .inr i :: pk, xs, ds => match ds[i]?, pickL pk xs ds with
    | some x, some r => some (x :: r)
    | _, _ => none
/-- how a def binds n written values and keywords ks -/
structure BindU (K : PySem.W.Frag) (fd : FuncData) (ps : List Str) (n : Nat) (ks : List Str) (pk : Pk) (dvs : List V) : Prop where
  ex : ∃ its : List Value, Vals dvs its ∧ ∀ (s : Shared) (us ws cs : List Value), K.In s.heap → us.length = n → ws.length = ks.length → pickL pk (us ++ ws) its = some cs → BindsTo s fd ⟨us, ks.zip ws⟩ (ps.zip cs)
  len : pk.length = ps.length
abbrev SimK (G : Glob) (X : Cx) (W : WX) (kws : List Keyword) (f : AV) : Prop := PK X kws (RdA G X.K W f)
def eArgs (n m : Nat) (fa fk : AV) : AV := fun ρ => (fa ρ).bind fun rs ρ1 => (fk ρ1).bind fun zs ρ2 => if rs.length = n ∧ zs.length = m then .ok (rs ++ zs) ρ2 else .no
def eCall (n m : Nat) (pk : Pk) (dds : List D) (fv : EV) (fa fk : AV) : EV := fun ρ => (eArgs n m fa fk ρ).bind fun rs ρ1 => match pickL pk rs (dds.map .v) with
  | some rc => callR fv rc ρ1
  | none => .no
def isObj (c : Nat) (m : Str) : Option D → Bool
  | some (.obj c' ks _) => c' == c && !ks.contains m
  | _ => false
def eMeth (c : Nat) (x : Str) (n m : Nat) (pk : Pk) (dds : List D) (fv : EV) (fo : EV) (fa fk : AV) : EV := fun ρ => (fo ρ).bind fun r0 ρ0 => if isObj c x (con ρ0 r0) = true then (eArgs n m fa fk ρ0).bind fun rs ρ1 => match pickL pk (r0 :: rs) (dds.map .v) with
  | some rc => callR fv rc ρ1
  | none => .no
  else .no
/-- the new object, the last slot -/
def madeR (n : Nat) : XR Rv → XR Rv
  | .ok (.v .non) ρ => match ρ[n]? with
    | some (some (.own false d)) => .ok (.fr d) (ρ.take n)
    | some (some (.val false d)) => .ok (.v d) (ρ.take n)
    | _ => .no
  | .ex e ρ => .ex e (ρ.take n)
  | _ => .no
def eMake (c n m : Nat) (pk : Pk) (dds : List D) (fv : EV) (fa fk : AV) : EV := fun ρ => (eArgs n m fa fk ρ).bind fun rs ρ1 => match pickL pk (.bo ρ1.length :: rs) (dds.map .v) with
  | some rc => madeR ρ1.length (callR fv rc (ρ1 ++ [some (.own false (.obj c [] []))]))
  | none => .no
/-- given away at once -/
def eFz (f : EV) : EV := fun ρ => (f ρ).bind fun r ρ1 => match esc r ρ1 with
  | some (d, ρ2) => .ok (.v d) ρ2
  | none => .no
section
variable {G : Glob} {X : Cx} {W : WX} {K : PySem.W.Frag} {σ σ1 σ' : L2.St} {F H H0 F1 H1 F' H' : Hp} {ρ ρ0 ρ1 ρ2 ρ' ρa : Ro} {rs zs rc : List Rv} {vs : List V} {e o : Expr} {es : List Expr} {fe fo : EV} {fa fk : AV} {pos p : Pos} {kws : List Keyword}
theorem se_fz (h : SimE G X W e fe) : SimE G X W e (eFz fe) := PE.of h fun σ H Q h => by
  obtain ⟨ρ, F, s, l, o⟩ := h
  refine ⟨ρ, F, s, l, ?_⟩
  unfold eFz at o
  cases e1 : fe ρ with
  | no => simp only [e1, XR.bind] at o; exact o
  | ex e' ρ1 => simp only [e1, XR.bind] at o; exact o
  | ok r ρ1 =>
    simp only [e1, XR.bind] at o
    intro v F1 H1 g1 p1
    cases e2 : esc r ρ1 with
    | none => simp only [e2] at o; exact o.elim
    | some q =>
      obtain ⟨d, ρ2⟩ := q
      simp only [e2] at o
      obtain ⟨F2, g2, r2, _⟩ := esc_go l g1 p1 e2
      exact o v F2 H1 g2 r2
theorem pick_rep {drs : List Rv} {dvs : List V} (P : RepP G K H0 F H σ ρ rs vs) (D' : RepP G K H0 F H σ ρ drs dvs) : ∀ {pk : Pk} {rc : List Rv}, pickL pk rs drs = some rc → ∃ cv, pickL pk vs dvs = some cv ∧ RepP G K H0 F H σ ρ rc cv
  | [], rc, h => by cases h; exact ⟨[], rfl, .nil⟩
  | .inl i :: pk, rc, h => by
    simp only [pickL] at h
    cases e1 : rs[i]? with
    | none => rw [e1] at h; cases h
    | some r =>
      cases e2 : pickL pk rs drs with
      | none => rw [e1, e2] at h; cases h
      | some q =>
        rw [e1, e2] at h; cases h
        obtain ⟨v, h1, h2⟩ := P.get e1
        obtain ⟨cv, h3, h4⟩ := pick_rep P D' e2
        exact ⟨v :: cv, by simp only [pickL, h1, h3], .cons h2 h4⟩
  | .inr i :: pk, rc, h => by
    simp only [pickL] at h
    cases e1 : drs[i]? with
    | none => rw [e1] at h; cases h
    | some r =>
      cases e2 : pickL pk rs drs with
      | none => rw [e1, e2] at h; cases h
      | some q =>
        rw [e1, e2] at h; cases h
        obtain ⟨v, h1, h2⟩ := D'.get e1
        obtain ⟨cv, h3, h4⟩ := pick_rep P D' e2
        exact ⟨v :: cv, by simp only [pickL, h1, h3], .cons h2 h4⟩
theorem pick_len {α : Type} {xs ds : List α} : ∀ {pk : Pk} {rc : List α}, pickL pk xs ds = some rc → rc.length = pk.length
  | [], rc, h => by cases h; rfl
  | .inl i :: pk, rc, h => by
    simp only [pickL] at h
    cases e1 : xs[i]? with
    | none => rw [e1] at h; cases h
    | some r =>
      cases e2 : pickL pk xs ds with
      | none => rw [e1, e2] at h; cases h
      | some q => rw [e1, e2] at h; cases h; simp [pick_len e2]
  | .inr i :: pk, rc, h => by
    simp only [pickL] at h
    cases e1 : ds[i]? with
    | none => rw [e1] at h; cases h
    | some r =>
      cases e2 : pickL pk xs ds with
      | none => rw [e1, e2] at h; cases h
      | some q => rw [e1, e2] at h; cases h; simp [pick_len e2]
theorem pick_vals {dvs : List V} {us its : List Value} (r : Vals vs us) (d : Vals dvs its) : ∀ {pk : Pk} {cv : List V}, pickL pk vs dvs = some cv → ∃ cs, pickL pk us its = some cs ∧ Vals cv cs
  | [], cv, h => by cases h; exact ⟨[], rfl, .nil⟩
  | .inl i :: pk, cv, h => by
    simp only [pickL] at h
    cases e1 : vs[i]? with
    | none => rw [e1] at h; cases h
    | some v =>
      cases e2 : pickL pk vs dvs with
      | none => rw [e1, e2] at h; cases h
      | some q =>
        rw [e1, e2] at h; cases h
        obtain ⟨u, h1, h2⟩ := r.get e1
        obtain ⟨cs, h3, h4⟩ := pick_vals r d e2
        exact ⟨u :: cs, by simp only [pickL, h1, h3], .cons h2 h4⟩
  | .inr i :: pk, cv, h => by
    simp only [pickL] at h
    cases e1 : dvs[i]? with
    | none => rw [e1] at h; cases h
    | some v =>
      cases e2 : pickL pk vs dvs with
      | none => rw [e1, e2] at h; cases h
      | some q =>
        rw [e1, e2] at h; cases h
        obtain ⟨u, h1, h2⟩ := d.get e1
        obtain ⟨cs, h3, h4⟩ := pick_vals r d e2
        exact ⟨u :: cs, by simp only [pickL, h1, h3], .cons h2 h4⟩
theorem rep_defs {dds : List D} {dvs : List V} (h : RepL G K F dds dvs) : RepP G K H0 F H σ ρ (dds.map .v) dvs := by
  induction dds generalizing dvs with
  | nil => unfold RepL at h; subst h; exact .nil
  | cons d ds ih =>
    unfold RepL at h
    obtain ⟨x, r, rfl, h1, h2⟩ := h
    exact .cons h1 (ih h2)
/-- the callee runs -/
theorem run_fnU {pins : List (Addr × Obj)} {s : Shared} {Q : VK} {k n : Nat} {f : Addr} {fd : FuncData} {ps ks : List Str} {pk : Pk} {dds : List D} {dvs : List V} {fv : EV} {us ws : List Value} {vs zv : List V} (Fn : FnU G X.prog X.w X.K X.mg X.base k f fd ps fv) (hr : Room k X.A) (hg : X.A.guards = some [])
    (tk : Takes X W) (B : BindU X.K fd ps n ks pk dvs) (hd : ∀ F, RepL G X.K F dds dvs) (I : Inv X pins σ H s) (r : Vals vs us) (rz : Vals zv ws) (hn : us.length = n) (hz : ws.length = ks.length) (sF : Sub F H) (l : SlOk G X.K F H σ ρ) (P : RepP G X.K H0 F H σ ρ rs (vs ++ zv)) (hp : pickL pk rs (dds.map .v) = some rc)
    (o : Out G X.K W (RepR G X.K) σ F H ρ (callR fv rc ρ) Q) : wpAny (model X.prog X.w) X.A (call (.ref f) us (ks.zip ws)) (EP X pins σ Q) X.xe s := by
  obtain ⟨cv, q1, q2⟩ := pick_rep P (rep_defs (hd F)) hp
  obtain ⟨its, q3, q4⟩ := B.ex
  obtain ⟨cs, q5, q6⟩ := pick_vals (r.append rz) q3 q1
  obtain ⟨ρa, la, oa⟩ := out_call l q2 sF o
  refine wpAny_call (codeAny_mono (Fn.run X.A X.stack s H ⟨us, ks.zip ws⟩ cs cv Q (fun c d H' => W c d σ H') F ρa hr hg I.env0 (q4 s us ws cs I.kIn hn hz q5) q6 ((pick_len q1).trans B.len) sF la oa) fun r s' hq => ?_)
  cases r with
  | error e => exact tk e s' (XE.of_call I (fun _ _ _ h => h) hq)
  | ok fl =>
    cases fl with
    | ret u => exact I.after hq
    | next => exact hq.elim
    | brk => exact hq.elim
    | cont => exact hq.elim
theorem sk_nil : SimK G X W [] aNil := ⟨fun pos pins s σ H Q I h => (pk_nil (X := X)).run pos pins s σ H Q I (by
  obtain ⟨ρ, F, s, l, o⟩ := h
  exact o.done (Go.refl s l) .nil)⟩
theorem PK.of {t t' : TA} (h : PK X kws t) (i : ∀ σ H Q, t' σ H Q → t σ H Q) : PK X kws t' := ⟨fun pos pins s σ H Q I q => h.run pos pins s σ H Q I (i σ H Q q)⟩
theorem sk_cons {nm : Option Str} {kpos : Pos} (ha : SimE G X W e fe) (hr : SimK G X W kws fk) : SimK G X W (⟨nm, e, kpos⟩ :: kws) (aCons fe fk) :=
  PK.of (pk_cons ha hr) fun σ H Q h => by
    obtain ⟨ρ, F, s, l, o⟩ := h
    refine Rd.mono ?_ (rd_bind oldA s l o)
    rintro x H1 ⟨r1, ρ1, F1, g1, p1, o1⟩
    refine Rd.mono ?_ (rd_more g1 o1)
    rintro xs H2 ⟨rs, ρ2, F2, g2, p2, o2⟩
    refine o2.done (g1.trans g2) (.cons (p1.go g2) (p2.older g1.there) fun d hd i e' h' z => ?_)
    subst hd
    obtain ⟨a, h1, h2, h3, h4, h5⟩ := p1
    have key : ∀ {rs : List Rv} {vs : List V} {i : Nat}, RepRs G X.K H1 F2 H2 σ ρ2 rs vs → rs[i]? = some (.fr e') → vs[i]? = some x → False := by
      intro rs vs i h
      induction h generalizing i with
      | nil => intro q; simp at q
      | cons a' b c ih =>
        intro q q'
        cases i with
        | zero =>
          simp at q q'; subst q; subst q'
          obtain ⟨b', k1, _, _, _, k5⟩ := a'
          rw [h1] at k1; cases k1
          exact h3.some_ k5
        | succ i => exact ih (by simpa using q) (by simpa using q')
    exact key p2 h' z
/-- both argument lists -/
theorem rd_args {n m : Nat} {g : List Rv → Ro → XR Rv} {Q : VK} (h : RdE G K W (fun ρ => (eArgs n m fa fk ρ).bind g) σ H Q) : RdA G K W fa σ H fun vs H1 => RdA G K W fk σ H1 fun zv H2 => ∃ ρ2 F2 rs ρ F, SlOk G K F H σ ρ ∧ Go G K σ F H ρ σ F2 H2 ρ2 ∧ vs.length = n ∧ zv.length = m ∧ RepP G K H F2 H2 σ ρ2 rs (vs ++ zv) ∧ Out G K W (RepR G K) σ F H ρ (g rs ρ2) Q := by
  obtain ⟨ρ, F, s, l, o⟩ := h
  have o' : Out G K W (RepR G K) σ F H ρ ((fa ρ).bind fun rs ρ1 => (fk ρ1).bind fun zs ρ2 => if rs.length = n ∧ zs.length = m then g (rs ++ zs) ρ2 else .no) Q := by
    unfold eArgs at o
    cases e1 : fa ρ with
    | no => simp only [e1, XR.bind] at o ⊢; exact o
    | ex e ρ1 => simp only [e1, XR.bind] at o ⊢; exact o
    | ok rs ρ1 =>
      simp only [e1, XR.bind] at o ⊢
      cases e2 : fk ρ1 with
      | no => simp only [e2, XR.bind] at o ⊢; exact o
      | ex e ρ2 => simp only [e2, XR.bind] at o ⊢; exact o
      | ok zs ρ2 =>
        simp only [e2, XR.bind] at o ⊢
        by_cases hc : rs.length = n ∧ zs.length = m
        · rw [if_pos hc] at o ⊢; exact o
        · rw [if_neg hc] at o ⊢; exact o
  refine Rd.mono ?_ (rd_bind oldE s l o')
  rintro vs H1 ⟨rs, ρ1, F1, g1, p1, o1⟩
  refine Rd.mono ?_ (rd_more g1 o1)
  rintro zv H2 ⟨zs, ρ2, F2, g2, p2, o2⟩
  by_cases hc : rs.length = n ∧ zs.length = m
  case neg => rw [if_neg hc] at o2; exact o2.elim
  rw [if_pos hc] at o2
  have q1 := p1.pw.go g2
  have q2 := p2.pw
  exact ⟨ρ2, F2, rs ++ zs, ρ, F, l, g1.trans g2, by rw [← q1.len]; exact hc.1, by rw [← q2.len]; exact hc.2, q1.append (q2.older g1.there), o2⟩
section
variable {k n m : Nat} {f : Addr} {fd : FuncData} {ps ks : List Str} {pk : Pk} {dds : List D} {dvs : List V} {fv : EV} {x : Str}
/-- the common end of a call -/
theorem fin_call {pins : List (Addr × Obj)} {s : Shared} {Q : VK} {us ws : List Value} {vs zv : List V} (Fn : FnU G X.prog X.w X.K X.mg X.base k f fd ps fv) (hr : Room k X.A) (hg : X.A.guards = some []) (tk : Takes X W) (B : BindU X.K fd ps n ks pk dvs) (hd : ∀ F, RepL G X.K F dds dvs) (I : Inv X pins σ H1 s) (r : Vals vs us) (rz : Vals zv ws)
    (hn : vs.length = n) (hz : zv.length = ks.length) (g : Go G X.K σ F H ρ σ F1 H1 ρ1) (P : RepP G X.K H F1 H1 σ ρ1 rs (vs ++ zv))
    (o : Out G X.K W (RepR G X.K) σ F H ρ (match pickL pk rs (dds.map .v) with
      | some rc => callR fv rc ρ1
      | none => .no) Q) : wpAny (model X.prog X.w) X.A (call (.ref f) us (ks.zip ws)) (EP X pins σ Q) X.xe s := by
  cases e : pickL pk rs (dds.map .v) with
  | none => rw [e] at o; exact o.elim
  | some rc =>
    rw [e] at o
    exact run_fnU Fn hr hg tk B hd I r rz (by rw [← r.length]; exact hn) (by rw [← rz.length]; exact hz) g.sub g.sl P e (o.after oldE g)
/-- f(a, ..) -/
theorem se_call (Fn : FnU G X.prog X.w X.K X.mg X.base k f fd ps fv) (hr : Room k X.A) (hg : X.A.guards = some []) (tk : Takes X W) (gl : Gl X x) (hm : X.mg x = some (.ref f)) (hk : PySem.W.keepIn X.K (.ref f) = true) (B : BindU X.K fd ps n [] pk dvs) (hd : ∀ F, RepL G X.K F dds dvs)
    (ha : SimA G X W (e :: es) fa) (hdb : (x == ("__debug__" : Str)) = false := by decide) (he : starEach (e :: es) X.env = (false, eval e X.env) :: starEach es X.env := by rfl) (hpl : (backTo pos (starEach es X.env)).any (·.1) = false := by rfl) : SimE G X W (.Call (.Name x p) (e :: es) [] pos) (eCall n 0 pk dds fv fa aNil) :=
  ⟨fun pins s σ H Q I h => by
    refine wpAny_Call_Name_kw (ld_glob I gl hm ?_ hdb)
    refine PySem.W.callWith_K (h₀ := X.base) I.ok.mod.kin hk (thn (ha.run pos pins s σ H _ I (rd_args h)) fun us s1 ⟨vs, H1, I1, r, q⟩ => ⟨I1.kIn, ?_⟩) he hpl
    have q2 := (sk_nil (G := G) (X := X) (W := W)).run pos pins s1 σ H1 _ I1 q
    obtain ⟨ρ, F, s', l, o⟩ := q
    obtain ⟨ρ2, F2, rs, ρ0, F0, l0, g, h1, h2, P, o2⟩ := o.done (Go.refl s' l) .nil
    exact fin_call (ks := []) (ws := []) Fn hr hg tk B hd I1 r .nil h1 h2 g P o2⟩
theorem se_call0 (Fn : FnU G X.prog X.w X.K X.mg X.base k f fd ps fv) (hr : Room k X.A) (hg : X.A.guards = some []) (tk : Takes X W) (gl : Gl X x) (hm : X.mg x = some (.ref f)) (hk : PySem.W.keepIn X.K (.ref f) = true) (B : BindU X.K fd ps 0 [] pk dvs) (hd : ∀ F, RepL G X.K F dds dvs)
    (hdb : (x == ("__debug__" : Str)) = false := by decide) : SimE G X W (.Call (.Name x p) [] [] pos) (eCall 0 0 pk dds fv aNil aNil) :=
  ⟨fun pins s σ H Q I h => by
    refine wpAny_Call_Name_kw (ld_glob I gl hm ?_ hdb)
    obtain ⟨ρ, F, s', l, o⟩ := rd_args h
    obtain ⟨ρ', F', s'', l', o'⟩ := o.done (Go.refl s' l) .nil
    obtain ⟨ρ2, F2, rs, ρ0, F0, l0, g, h1, h2, P, o2⟩ := o'.done (Go.refl s'' l') .nil
    exact PySem.W.callWith_K0 I.kIn hk (fin_call (ks := []) (us := []) (ws := []) Fn hr hg tk B hd I .nil .nil h1 h2 g P o2)⟩
theorem se_callK (Fn : FnU G X.prog X.w X.K X.mg X.base k f fd ps fv) (hr : Room k X.A) (hg : X.A.guards = some []) (tk : Takes X W) (gl : Gl X x) (hm : X.mg x = some (.ref f)) (hk : PySem.W.keepIn X.K (.ref f) = true) (B : BindU X.K fd ps n ks pk dvs) (hd : ∀ F, RepL G X.K F dds dvs)
    (ha : SimA G X W (e :: es) fa) (hw : SimK G X W kws fk) (hall : (backToKw pos (keywordEach kws X.env)).all (·.1.isSome) = true := by rfl) (hks : (backToKw pos (keywordEach kws X.env)).filterMap (·.1) = ks := by rfl) (hdb : (x == ("__debug__" : Str)) = false := by decide)
    (he : starEach (e :: es) X.env = (false, eval e X.env) :: starEach es X.env := by rfl) (hpl : ((backTo pos (starEach (e :: es) X.env)).any (·.1) || (backToKw pos (keywordEach kws X.env)).any (·.1.isNone)) = false := by rfl) : SimE G X W (.Call (.Name x p) (e :: es) kws pos) (eCall n ks.length pk dds fv fa fk) :=
  ⟨fun pins s σ H Q I h => by
    refine wpAny_Call_Name_kw (ld_glob I gl hm ?_ hdb)
    refine PySem.W.callWith_KW (h₀ := X.base) I.ok.mod.kin hk hall (thn (ha.run pos pins s σ H _ I (rd_args h)) fun us s1 ⟨vs, H1, I1, r, q⟩ => thn (hw.run pos pins s1 σ H1 _ I1 q) fun ws s2 ⟨zv, H2, I2, rz, q2⟩ => ⟨I2.kIn, ?_⟩) hpl he
    rw [hks]
    obtain ⟨ρ2, F2, rs, ρ0, F0, l0, g, h1, h2, P, o2⟩ := q2
    exact fin_call Fn hr hg tk B hd I2 r rz h1 h2 g P o2⟩
theorem se_callK0 (Fn : FnU G X.prog X.w X.K X.mg X.base k f fd ps fv) (hr : Room k X.A) (hg : X.A.guards = some []) (tk : Takes X W) (gl : Gl X x) (hm : X.mg x = some (.ref f)) (hk : PySem.W.keepIn X.K (.ref f) = true) (B : BindU X.K fd ps 0 ks pk dvs) (hd : ∀ F, RepL G X.K F dds dvs)
    (hw : SimK G X W kws fk) (hall : (backToKw pos (keywordEach kws X.env)).all (·.1.isSome) = true := by rfl) (hks : (backToKw pos (keywordEach kws X.env)).filterMap (·.1) = ks := by rfl) (hdb : (x == ("__debug__" : Str)) = false := by decide)
    (hpl : ((backTo pos (starEach [] X.env)).any (·.1) || (backToKw pos (keywordEach kws X.env)).any (·.1.isNone)) = false := by rfl) : SimE G X W (.Call (.Name x p) [] kws pos) (eCall 0 ks.length pk dds fv aNil fk) :=
  ⟨fun pins s σ H Q I h => by
    refine wpAny_Call_Name_kw (ld_glob I gl hm ?_ hdb)
    obtain ⟨ρ, F, s', l, o⟩ := rd_args h
    refine PySem.W.callWith_KW0 (h₀ := X.base) I.ok.mod.kin hk hall (thn (hw.run pos pins s σ H _ I (o.done (Go.refl s' l) .nil)) fun ws s2 ⟨zv, H2, I2, rz, q2⟩ => ⟨I2.kIn, ?_⟩) hpl
    rw [hks]
    obtain ⟨ρ2, F2, rs, ρ0, F0, l0, g, h1, h2, P, o2⟩ := q2
    exact fin_call (us := []) Fn hr hg tk B hd I2 .nil rz h1 h2 g P o2⟩
end
end
end U
end part_U14

section part_U15
set_option Elab.async false
set_option linter.all false
set_option maxRecDepth 100000
set_option maxHeartbeats 1000000
/-! U15: methods, classes. -/
namespace U
open PySem PyProof.Rows L2
section
variable {G : Glob} {X : Cx} {W : WX} {K : PySem.W.Frag} {σ σ1 σ' : L2.St} {F H H0 F1 H1 F' H' : Hp} {ρ ρ0 ρ1 ρ2 ρ3 ρ' ρa : Ro} {rs zs rc : List Rv} {vs : List V} {e o : Expr} {es : List Expr} {fe fo : EV} {fa fk : AV} {pos p apos : Pos} {kws : List Keyword}
theorem rd_args2 {n m : Nat} {g : List Rv → Ro → XR Rv} {Q : VK} (g1 : Go G K σ F H ρ σ F1 H1 ρ1) (o : Out G K W (RepR G K) σ F H ρ ((eArgs n m fa fk ρ1).bind g) Q) : RdA G K W fa σ H1 fun vs H2 => RdA G K W fk σ H2 fun zv H3 => ∃ ρ3 F3 rs, Go G K σ F1 H1 ρ1 σ F3 H3 ρ3 ∧ vs.length = n ∧ zv.length = m ∧ RepP G K H1 F3 H3 σ ρ3 rs (vs ++ zv) ∧ Out G K W (RepR G K) σ F H ρ (g rs ρ3) Q := by
  have o' : Out G K W (RepR G K) σ F H ρ ((fa ρ1).bind fun rs ρ1 => (fk ρ1).bind fun zs ρ2 => if rs.length = n ∧ zs.length = m then g (rs ++ zs) ρ2 else .no) Q := by
    unfold eArgs at o
    cases e1 : fa ρ1 with
    | no => simp only [e1, XR.bind] at o ⊢; exact o
    | ex e ρ1 => simp only [e1, XR.bind] at o ⊢; exact o
    | ok rs ρ1 =>
      simp only [e1, XR.bind] at o ⊢
      cases e2 : fk ρ1 with
      | no => simp only [e2, XR.bind] at o ⊢; exact o
      | ex e ρ2 => simp only [e2, XR.bind] at o ⊢; exact o
      | ok zs ρ2 =>
        simp only [e2, XR.bind] at o ⊢
        by_cases hc : rs.length = n ∧ zs.length = m
        · rw [if_pos hc] at o ⊢; exact o
        · rw [if_neg hc] at o ⊢; exact o
  refine Rd.mono ?_ (rd_more g1 o')
  rintro vs H2 ⟨rs, ρ2, F2, g2, p2, o2⟩
  refine Rd.mono ?_ (rd_more (g1.trans g2) o2)
  rintro zv H3 ⟨zs, ρ3, F3, g3, p3, o3⟩
  by_cases hc : rs.length = n ∧ zs.length = m
  case neg => rw [if_neg hc] at o3; exact o3.elim
  rw [if_pos hc] at o3
  have q1 := p2.pw.go g3
  have q2 := p3.pw
  exact ⟨ρ3, F3, rs ++ zs, g2.trans g3, by rw [← q1.len]; exact hc.1, by rw [← q2.len]; exact hc.2, q1.append (q2.older g2.there), o3⟩
theorem lookup_out {fs : List (Str × V)} {m : Str} (h : (fs.map (·.1)).contains m = false) : fs.lookup m = none := by
  induction fs with
  | nil => rfl
  | cons a fs ih =>
    obtain ⟨k, v⟩ := a
    simp only [List.map_cons, List.contains_cons, Bool.or_eq_false_iff] at h
    have hb : (m == k) = false := h.1
    simp only [List.lookup, hb]
    exact ih h.2
theorem isObj_at {c : Nat} {x : Str} {d : Option D} (h : isObj c x d = true) : ∃ ks vs, d = some (.obj c ks vs) ∧ ks.contains x = false := by
  unfold isObj at h
  split at h
  · rename_i c' ks vs
    simp only [Bool.and_eq_true, Bool.not_eq_true', beq_iff_eq] at h
    obtain ⟨rfl, h2⟩ := h
    exact ⟨ks, vs, rfl, h2⟩
  · cases h
/-- the receiver, then the arguments -/
theorem rd_meth {c n m : Nat} {x : Str} {pk : Pk} {dds : List D} {fv : EV} {Q : VK} (h : RdE G K W (eMeth c x n m pk dds fv fo fa fk) σ H Q) : RdE G K W fo σ H fun y H1 => ∃ a dx fs, y = .ref a ∧ H1 a = some (.ins (G.ca c) dx fs) ∧ fs.lookup x = none ∧
    RdA G K W fa σ H1 fun vs H2 => RdA G K W fk σ H2 fun zv H3 => ∃ ρ3 F3 rs ρ F, Go G K σ F H ρ σ F3 H3 ρ3 ∧ vs.length = n ∧ zv.length = m ∧ RepP G K H F3 H3 σ ρ3 rs ((y :: vs) ++ zv) ∧ Out G K W (RepR G K) σ F H ρ (match pickL pk rs (dds.map .v) with
      | some rc => callR fv rc ρ3
      | none => .no) Q := by
  obtain ⟨ρ, F, s, l, o⟩ := h
  refine Rd.mono ?_ (rd_bind oldE s l o)
  rintro y H1 ⟨r0, ρ1, F1, g1, p1, o1⟩
  by_cases hc : isObj c x (con ρ1 r0) = true
  case neg => rw [if_neg hc] at o1; exact o1.elim
  rw [if_pos hc] at o1
  obtain ⟨ks, ws, hd, hk⟩ := isObj_at hc
  obtain ⟨a, dx, fs, rfl, h1, h2, h3⟩ := at_of g1.sub g1.sl p1 hd
  refine ⟨a, dx, fs, rfl, h1, lookup_out (by rw [h2]; exact hk), ?_⟩
  refine Rd.mono ?_ (rd_args2 g1 o1)
  rintro vs H2 q
  refine Rd.mono ?_ q
  rintro zv H3 ⟨ρ3, F3, rs, g3, k1, k2, P, o3⟩
  exact ⟨ρ3, F3, r0 :: rs, ρ, F, g1.trans g3, k1, k2, .cons (p1.go g3) (P.older g1.there), o3⟩
section
variable {k n m c : Nat} {f : Addr} {fd : FuncData} {ps ks : List Str} {pk : Pk} {dds : List D} {dvs : List V} {fv : EV} {x : Str} {pl : Sem Bool}
theorem fin_meth {pins : List (Addr × Obj)} {s : Shared} {Q : VK} {y : V} {u : Value} {us ws : List Value} {vs zv : List V} (Fn : FnU G X.prog X.w X.K X.mg X.base k f fd ps fv) (hr : Room k X.A) (hg : X.A.guards = some []) (tk : Takes X W) (B : BindU X.K fd ps (n + 1) ks pk dvs) (hd : ∀ F, RepL G X.K F dds dvs) (I : Inv X pins σ H1 s) (ry : RelV y u) (r : Vals vs us) (rz : Vals zv ws)
    (q : ∃ ρ3 F3 rs ρ F, Go G X.K σ F H ρ σ F3 H1 ρ3 ∧ vs.length = n ∧ zv.length = ks.length ∧ RepP G X.K H F3 H1 σ ρ3 rs ((y :: vs) ++ zv) ∧ Out G X.K W (RepR G X.K) σ F H ρ (match pickL pk rs (dds.map .v) with
      | some rc => callR fv rc ρ3
      | none => .no) Q) : wpAny (model X.prog X.w) X.A (call (.ref f) ([u] ++ us) (ks.zip ws)) (EP X pins σ Q) X.xe s := by
  obtain ⟨ρ3, F3, rs, ρ, F, g, h1, h2, P, o⟩ := q
  exact fin_call Fn hr hg tk B hd I (.cons ry r) rz (by simp [h1]) h2 g P o
/-- o.m(a, ..) -/
theorem se_meth (ho : SimE G X W o fo) (C : Cls X.K (G.ca c)) (M : Meth X.K (G.ca c) x f) (Fn : FnU G X.prog X.w X.K X.mg X.base k f fd ps fv) (hr : Room k X.A) (hg : X.A.guards = some []) (tk : Takes X W) (B : BindU X.K fd ps (n + 1) [] pk dvs) (hd : ∀ F, RepL G X.K F dds dvs)
    (ha : SimA G X W (e :: es) fa) (hst : starEach (e :: es) X.env = (false, eval e X.env) :: starEach es X.env := by rfl) (hpl : (backTo pos (starEach es X.env)).any (·.1) = false := by rfl)
    (ht : eval (.Call (.Attribute o x apos) (e :: es) [] pos) X.env = (do
      let ov ← eval o X.env
      standAt apos.atName
      let (f, first) ← holding [ov] (getMethod ov x pl)
      callWith pos f first (backTo pos (starEach (e :: es) X.env)) (backToKw pos (keywordEach [] X.env))) := by rfl) : SimE G X W (.Call (.Attribute o x apos) (e :: es) [] pos) (eMeth c x n 0 pk dds fv fo fa aNil) :=
  ⟨fun pins s σ H Q I h => by
    refine PySem.W.methodCall_KW (pl := pl) (thn (ho.run pins s σ H _ I (rd_meth h)) fun u s1 ⟨y, H1, I1, ry, a, dx, fs, ey, ea, lk, q⟩ => ?_) ht
    subst ey
    obtain rfl : u = Value.ref a := ry
    refine getmeth_ok I1 ea C M lk (PySem.W.callWith_K (first := [.ref a]) (h₀ := X.base) I.ok.mod.kin M.kp (thn (ha.run pos pins s1 σ H1 _ I1 q) fun us s2 ⟨vs, H2, I2, r, q2⟩ => ⟨I2.kIn, ?_⟩) hst hpl)
    obtain ⟨ρ, F, s', l, o⟩ := q2
    exact fin_meth (y := .ref a) (ks := []) (ws := []) Fn hr hg tk B hd I2 rfl r .nil (o.done (Go.refl s' l) .nil)⟩
theorem se_meth0 (ho : SimE G X W o fo) (C : Cls X.K (G.ca c)) (M : Meth X.K (G.ca c) x f) (Fn : FnU G X.prog X.w X.K X.mg X.base k f fd ps fv) (hr : Room k X.A) (hg : X.A.guards = some []) (tk : Takes X W) (B : BindU X.K fd ps 1 [] pk dvs) (hd : ∀ F, RepL G X.K F dds dvs)
    (ht : eval (.Call (.Attribute o x apos) [] [] pos) X.env = (do
      let ov ← eval o X.env
      standAt apos.atName
      let (f, first) ← holding [ov] (getMethod ov x pl)
      callWith pos f first (backTo pos (starEach [] X.env)) (backToKw pos (keywordEach [] X.env))) := by rfl) : SimE G X W (.Call (.Attribute o x apos) [] [] pos) (eMeth c x 0 0 pk dds fv fo aNil aNil) :=
  ⟨fun pins s σ H Q I h => by
    refine PySem.W.methodCall_KW (pl := pl) (thn (ho.run pins s σ H _ I (rd_meth h)) fun u s1 ⟨y, H1, I1, ry, a, dx, fs, ey, ea, lk, q⟩ => ?_) ht
    subst ey
    obtain rfl : u = Value.ref a := ry
    obtain ⟨ρ, F, s', l, o⟩ := q
    obtain ⟨ρ', F', s'', l', o'⟩ := o.done (Go.refl s' l) .nil
    exact getmeth_ok I1 ea C M lk (PySem.W.callWith_K0 (first := [.ref a]) I1.kIn M.kp (fin_meth (y := .ref a) (n := 0) (ks := []) (us := []) (ws := []) Fn hr hg tk B hd I1 rfl .nil .nil (o'.done (Go.refl s'' l') .nil)))⟩
theorem se_methK (ho : SimE G X W o fo) (C : Cls X.K (G.ca c)) (M : Meth X.K (G.ca c) x f) (Fn : FnU G X.prog X.w X.K X.mg X.base k f fd ps fv) (hr : Room k X.A) (hg : X.A.guards = some []) (tk : Takes X W) (B : BindU X.K fd ps (n + 1) ks pk dvs) (hd : ∀ F, RepL G X.K F dds dvs)
    (ha : SimA G X W (e :: es) fa) (hw : SimK G X W kws fk) (hall : (backToKw pos (keywordEach kws X.env)).all (·.1.isSome) = true := by rfl) (hks : (backToKw pos (keywordEach kws X.env)).filterMap (·.1) = ks := by rfl) (hst : starEach (e :: es) X.env = (false, eval e X.env) :: starEach es X.env := by rfl)
    (hpl : ((backTo pos (starEach (e :: es) X.env)).any (·.1) || (backToKw pos (keywordEach kws X.env)).any (·.1.isNone)) = false := by rfl)
    (ht : eval (.Call (.Attribute o x apos) (e :: es) kws pos) X.env = (do
      let ov ← eval o X.env
      standAt apos.atName
      let (f, first) ← holding [ov] (getMethod ov x pl)
      callWith pos f first (backTo pos (starEach (e :: es) X.env)) (backToKw pos (keywordEach kws X.env))) := by rfl) : SimE G X W (.Call (.Attribute o x apos) (e :: es) kws pos) (eMeth c x n ks.length pk dds fv fo fa fk) :=
  ⟨fun pins s σ H Q I h => by
    refine PySem.W.methodCall_KW (pl := pl) (thn (ho.run pins s σ H _ I (rd_meth h)) fun u s1 ⟨y, H1, I1, ry, a, dx, fs, ey, ea, lk, q⟩ => ?_) ht
    subst ey
    obtain rfl : u = Value.ref a := ry
    refine getmeth_ok I1 ea C M lk (PySem.W.callWith_KW (first := [.ref a]) (h₀ := X.base) I.ok.mod.kin M.kp hall (thn (ha.run pos pins s1 σ H1 _ I1 q) fun us s2 ⟨vs, H2, I2, r, q2⟩ => thn (hw.run pos pins s2 σ H2 _ I2 q2) fun ws s3 ⟨zv, H3, I3, rz, q3⟩ => ⟨I3.kIn, ?_⟩) hpl hst)
    rw [hks]
    exact fin_meth (y := .ref a) Fn hr hg tk B hd I3 rfl r rz q3⟩
theorem se_methK0 (ho : SimE G X W o fo) (C : Cls X.K (G.ca c)) (M : Meth X.K (G.ca c) x f) (Fn : FnU G X.prog X.w X.K X.mg X.base k f fd ps fv) (hr : Room k X.A) (hg : X.A.guards = some []) (tk : Takes X W) (B : BindU X.K fd ps 1 ks pk dvs) (hd : ∀ F, RepL G X.K F dds dvs)
    (hw : SimK G X W kws fk) (hall : (backToKw pos (keywordEach kws X.env)).all (·.1.isSome) = true := by rfl) (hks : (backToKw pos (keywordEach kws X.env)).filterMap (·.1) = ks := by rfl)
    (hpl : ((backTo pos (starEach [] X.env)).any (·.1) || (backToKw pos (keywordEach kws X.env)).any (·.1.isNone)) = false := by rfl)
    (ht : eval (.Call (.Attribute o x apos) [] kws pos) X.env = (do
      let ov ← eval o X.env
      standAt apos.atName
      let (f, first) ← holding [ov] (getMethod ov x pl)
      callWith pos f first (backTo pos (starEach [] X.env)) (backToKw pos (keywordEach kws X.env))) := by rfl) : SimE G X W (.Call (.Attribute o x apos) [] kws pos) (eMeth c x 0 ks.length pk dds fv fo aNil fk) :=
  ⟨fun pins s σ H Q I h => by
    refine PySem.W.methodCall_KW (pl := pl) (thn (ho.run pins s σ H _ I (rd_meth h)) fun u s1 ⟨y, H1, I1, ry, a, dx, fs, ey, ea, lk, q⟩ => ?_) ht
    subst ey
    obtain rfl : u = Value.ref a := ry
    obtain ⟨ρ, F, s', l, o⟩ := q
    refine getmeth_ok I1 ea C M lk (PySem.W.callWith_KW0 (first := [.ref a]) (h₀ := X.base) I.ok.mod.kin M.kp hall (thn (hw.run pos pins s1 σ H1 _ I1 (o.done (Go.refl s' l) .nil)) fun ws s3 ⟨zv, H3, I3, rz, q3⟩ => ⟨I3.kIn, ?_⟩) hpl)
    rw [hks]
    exact fin_meth (y := .ref a) (n := 0) (us := []) Fn hr hg tk B hd I3 rfl .nil rz q3⟩
end
/-! ### a class's call -/
abbrev mkH (H : Hp) (C x dx : Addr) : Hp := upd (upd H dx (.own x)) x (.ins C dx [])
theorem mkH_keep {C x dx b : Addr} {o : HO} (hx : H x = none) (hdx : H dx = none) (h : H b = some o) : mkH H C x dx b = some o := by
  unfold mkH
  rw [upd_ne (ne_of_none h hx), upd_ne (ne_of_none h hdx)]; exact h
theorem mkH_free {C x dx b : Addr} (h : mkH H C x dx b = none) : H b = none := by
  unfold mkH at h
  by_cases h1 : b = x
  · subst h1; rw [upd_same] at h; cases h
  · rw [upd_ne h1] at h
    by_cases h2 : b = dx
    · subst h2; rw [upd_same] at h; cases h
    · rw [upd_ne h2] at h; exact h
theorem app_last {α : Type} {l : List α} {x : α} : (l ++ [x])[l.length]? = some x := by simp
theorem app_lt {α : Type} {l : List α} {x y : α} {i : Nat} (h : l[i]? = some y) : (l ++ [x])[i]? = some y := by
  rw [List.getElem?_append_left (List.getElem?_eq_some_iff.mp h).1]; exact h
theorem app_inv {α : Type} {l : List α} {x y : α} {i : Nat} (h : (l ++ [x])[i]? = some y) : l[i]? = some y ∨ (i = l.length ∧ y = x) := by
  by_cases hi : i < l.length
  · rw [List.getElem?_append_left hi] at h; exact .inl h
  · have hl := (List.getElem?_eq_some_iff.mp h).1
    simp at hl
    have : i = l.length := by omega
    subst this
    rw [app_last] at h
    exact .inr ⟨rfl, (Option.some.inj h).symm⟩
theorem bo_ext {x b : Addr} {d : D} (hl : σ.length = ρ.length) : Bo (σ ++ [some (.ref x)]) (ρ ++ [some (.own false d)]) b ↔ Bo σ ρ b ∨ b = x := by
  constructor
  · rintro ⟨i, p, c, h1, h2⟩
    rcases app_inv h1 with h1 | ⟨rfl, _⟩
    · rw [List.getElem?_append_left (by rw [hl]; exact (List.getElem?_eq_some_iff.mp h1).1)] at h2
      exact .inl ⟨i, p, c, h1, h2⟩
    · rw [← hl, app_last] at h2
      cases h2; exact .inr rfl
  · rintro (⟨i, p, c, h1, h2⟩ | rfl)
    · exact ⟨i, p, c, app_lt h1, app_lt h2⟩
    · exact ⟨ρ.length, false, d, app_last, by rw [← hl, app_last]⟩
theorem sl_ext {c : Nat} {x dx : Addr} (l : SlOk G K F H σ ρ) (s : Sub F H) (hx : H x = none) (hdx : H dx = none) : SlOk G K F (mkH H (G.ca c) x dx) (σ ++ [some (.ref x)]) (ρ ++ [some (.own false (.obj c [] []))]) := by
  have hl := l.len
  have fx : F x = none := free_of s hx
  have hO : OwnAt G K F (mkH H (G.ca c) x dx) x (.obj c [] []) := ⟨dx, [], upd_same, rfl, repL_mk0⟩
  have at1 : ∀ {i : Nat} {y : Sl}, ρ[i]? = some (some y) → (σ ++ [some (V.ref x)])[i]? = σ[i]? := fun h => List.getElem?_append_left (by rw [hl]; exact (List.getElem?_eq_some_iff.mp h).1)
  refine ⟨by simp [hl], fun i p d h => ?_, fun i p d h => ?_, fun i p d h => ?_, fun i j p q d e a h h' h1 h2 => ?_, fun i h => by
    rcases app_inv h with h | ⟨_, z⟩
    · rw [at1 h]; exact l.exc i h
    · cases z⟩
  · rcases app_inv h with h | ⟨_, z⟩
    · rw [at1 h]; exact l.val i p d h
    · cases z
  · rcases app_inv h with h | ⟨rfl, z⟩
    · rw [at1 h]
      obtain ⟨a, q1, q2, q3⟩ := l.own i p d h
      exact ⟨a, q1, q2, q3.heap fun o e => mkH_keep hx hdx e⟩
    · cases z
      exact ⟨x, by rw [← hl, app_last], fx, hO⟩
  · rcases app_inv h with h | ⟨_, z⟩
    · rw [at1 h]
      obtain ⟨a, q1, q2, q3, q4⟩ := l.lent i p d h
      refine ⟨a, q1, q2, q3.heap fun o e => mkH_keep hx hdx e, fun z => ?_⟩
      rcases (bo_ext hl).mp z with z | z
      · exact q4 z
      · subst z; exact q3.some_ hx
    · cases z
  · have nx : ∀ {i : Nat} {p : Bool} {d : D}, ρ[i]? = some (some (.own p d)) → σ[i]? ≠ some (some (.ref x)) := fun {i p d} h z => by
      obtain ⟨b, q1, _, q3⟩ := l.own i p d h
      rw [z] at q1; cases q1
      exact q3.some_ hx
    rcases app_inv h with h | ⟨rfl, z⟩
    · rcases app_inv h' with h' | ⟨rfl, z'⟩
      · rw [at1 h] at h1; rw [at1 h'] at h2
        exact l.one i j p q d e a h h' h1 h2
      · rw [← hl, app_last] at h2; cases h2
        rw [at1 h] at h1
        exact absurd h1 (nx h)
    · rcases app_inv h' with h' | ⟨rfl, z'⟩
      · rw [← hl, app_last] at h1; cases h1
        rw [at1 h'] at h2
        exact absurd h2 (nx h')
      · rfl
theorem RepP.ext {c : Nat} {x dx : Addr} (hl : σ.length = ρ.length) (hx : H x = none) (hdx : H dx = none) (h : RepP G K H0 F H σ ρ rs vs) : RepP G K H0 F (mkH H (G.ca c) x dx) (σ ++ [some (.ref x)]) (ρ ++ [some (.own false (.obj c [] []))]) rs vs := by
  induction h with
  | nil => exact .nil
  | @cons r v rs vs a b ih =>
    refine .cons ?_ ih
    cases r with
    | v d => exact a
    | bo i => exact app_lt a
    | fr d =>
      obtain ⟨y, h1, h2, h3, h4, h5⟩ := a
      refine ⟨y, h1, h2, h3.heap fun o e => mkH_keep hx hdx e, fun z => ?_, h5⟩
      rcases (bo_ext hl).mp z with z | z
      · exact h4 z
      · subst z; exact h3.some_ hx
theorem take_get {n i : Nat} {s : Option Sl} (h : (ρ3.take n)[i]? = some s) : ρ3[i]? = some s ∧ i < n := by
  rw [List.getElem?_take] at h
  split at h
  · exact ⟨h, by assumption⟩
  · cases h
/-- without the last slot -/
theorem Go.drop {c : Nat} {x dx : Addr} (l : SlOk G K F H σ ρ) (hx : H x = none) (hdx : H dx = none) (g : Go G K (σ ++ [some (.ref x)]) F (mkH H (G.ca c) x dx) (ρ ++ [some (.own false (.obj c [] []))]) (σ ++ [some (.ref x)]) F' H' ρ3) : Go G K σ F H ρ σ F' H' (ρ3.take ρ.length) := by
  have hl := l.len
  have hl3 : ρ3.length = ρ.length + 1 := by rw [← g.sl.len]; simp [hl]
  have at1 : ∀ {i : Nat}, i < ρ.length → (σ ++ [some (V.ref x)])[i]? = σ[i]? := fun h => List.getElem?_append_left (by rw [hl]; exact h)
  have at2 : ∀ {i : Nat} {y : Option Sl}, i < ρ.length → (ρ ++ [some (.own false (.obj c [] []))])[i]? = some y → ρ[i]? = some y := fun h e => by rw [List.getElem?_append_left h] at e; exact e
  have bo3 : ∀ b, Bo σ (ρ3.take ρ.length) b → Bo (σ ++ [some (V.ref x)]) ρ3 b := fun b ⟨i, p, d, h1, h2⟩ => by
    obtain ⟨h1, hi⟩ := take_get h1
    exact ⟨i, p, d, h1, by rw [at1 hi]; exact h2⟩
  have x0 : ∀ b, Bo (σ ++ [some (V.ref x)]) (ρ ++ [some (.own false (.obj c [] []))]) b → Bo σ ρ b ∨ H b = none := fun b z => by
    rcases (bo_ext hl).mp z with z | z
    · exact .inl z
    · subst z; exact .inr hx
  refine ⟨g.sub, g.ff, fun b o hb h => g.keep b o (fun z => ?_) (mkH_keep hx hdx h), fun b h => ?_, fun b h => ?_, ⟨by rw [List.length_take, hl3, hl]; omega, fun i p d h => ?_, fun i p d h => ?_, fun i p d h => ?_, fun i j p q d e a h h' h1 h2 => ?_, fun i h => by
    obtain ⟨h, hi⟩ := take_get h
    have z := g.sl.exc i h
    rw [at1 hi] at z; exact z⟩, fun b h => ?_, fun i d h => ?_, fun i d h => ?_, fun i p d => ?_, fun _ _ _ _ => rfl⟩
  · rcases x0 b z with z | z
    · exact hb z
    · rw [h] at z; cases z
  · refine g.there b fun z => h (mkH_free z)
  · rcases g.new b h with z | z | z
    · exact .inl z
    · exact .inr (.inl (mkH_free z))
    · exact .inr ((x0 b z).symm.imp id id)
  · obtain ⟨h, hi⟩ := take_get h
    obtain ⟨v, q1, q2⟩ := g.sl.val i p d h
    rw [at1 hi] at q1
    exact ⟨v, q1, q2⟩
  · obtain ⟨h, hi⟩ := take_get h
    obtain ⟨v, q1, q2⟩ := g.sl.own i p d h
    rw [at1 hi] at q1
    exact ⟨v, q1, q2⟩
  · obtain ⟨h, hi⟩ := take_get h
    obtain ⟨v, q1, q2, q3, q4⟩ := g.sl.lent i p d h
    rw [at1 hi] at q1
    exact ⟨v, q1, q2, q3, fun z => q4 (bo3 v z)⟩
  · obtain ⟨h, hi⟩ := take_get h
    obtain ⟨h', hj⟩ := take_get h'
    exact g.sl.one i j p q d e a h h' (by rw [at1 hi]; exact h1) (by rw [at1 hj]; exact h2)
  · rcases g.own b (bo3 b h) with z | z
    · exact x0 b z
    · exact .inr (mkH_free z)
  · obtain ⟨h, hi⟩ := take_get h
    obtain ⟨_, w, q⟩ := g.pinO i d h
    exact ⟨rfl, w, at2 hi q⟩
  · obtain ⟨h, hi⟩ := take_get h
    obtain ⟨_, w, q⟩ := g.pinV i d h
    exact ⟨rfl, w, q.imp (at2 hi) (at2 hi)⟩
  · constructor
    · intro h
      obtain ⟨h, hi⟩ := take_get h
      exact at2 hi ((g.pinL i p d).mp h)
    · intro h
      have hi : i < ρ.length := (List.getElem?_eq_some_iff.mp h).1
      rw [List.getElem?_take, if_pos hi]
      exact (g.pinL i p d).mpr (app_lt h)
/-- the new object, as the caller has it -/
theorem made_res {c : Nat} {x dx : Addr} {d : D} (l : SlOk G K F H σ ρ) (hx : H x = none) (hdx : H dx = none) (g : Go G K (σ ++ [some (.ref x)]) F (mkH H (G.ca c) x dx) (ρ ++ [some (.own false (.obj c [] []))]) (σ ++ [some (.ref x)]) F' H' ρ3) (e : ρ3[ρ.length]? = some (some (.own false d))) : RepR G K H F' H' σ (ρ3.take ρ.length) (.fr d) (.ref x) := by
  have hl := l.len
  have hlast : (σ ++ [some (V.ref x)])[ρ.length]? = some (some (.ref x)) := by rw [← hl, app_last]
  obtain ⟨a, h1, h2, h3⟩ := g.sl.own _ _ _ e
  rw [hlast] at h1; cases h1
  refine ⟨x, rfl, h2, h3, fun ⟨i, p, d', z1, z2⟩ => ?_, hx⟩
  obtain ⟨z1, hi⟩ := take_get z1
  have := g.sl.one i ρ.length p false d' d x z1 e (by rw [List.getElem?_append_left (by rw [hl]; exact hi)]; exact z2) hlast
  omega
theorem make_guards {A : Around} {C : Addr} {us : List Value} {kw : List (Str × Value)} (h : A.guards = some []) : (A.under (.builtin "type.__call__" ⟨.ref C :: us, kw⟩)).guards = some [] := by
  simp [Around.under, Code.guards, Code.isGuard, guardIds, h, pushGuards]
section
variable {k n m c : Nat} {f : Addr} {fd : FuncData} {ps ks : List Str} {pk : Pk} {dds : List D} {dvs : List V} {fv : EV} {x : Str}
theorem fin_make {pins : List (Addr × Obj)} {s : Shared} {Q : VK} {us ws : List Value} {vs zv : List V} (M : Mk X.K (G.ca c) f) (Fn : FnU G X.prog X.w X.K X.mg X.base k f fd ps fv) (hr : Room (k + 1) X.A) (hg : X.A.guards = some []) (tk : Takes X W) (B : BindU X.K fd ps (n + 1) ks pk dvs) (hd : ∀ F, RepL G X.K F dds dvs) (I : Inv X pins σ H1 s) (r : Vals vs us) (rz : Vals zv ws)
    (q : ∃ ρ1 F1 rs ρ F, SlOk G X.K F H σ ρ ∧ Go G X.K σ F H ρ σ F1 H1 ρ1 ∧ vs.length = n ∧ zv.length = ks.length ∧ RepP G X.K H F1 H1 σ ρ1 rs (vs ++ zv) ∧ Out G X.K W (RepR G X.K) σ F H ρ (match pickL pk (.bo ρ1.length :: rs) (dds.map .v) with
      | some rc => madeR ρ1.length (callR fv rc (ρ1 ++ [some (.own false (.obj c [] []))]))
      | none => .no) Q) : wpAny (model X.prog X.w) X.A (call (.ref (G.ca c)) us (ks.zip ws)) (EP X pins σ Q) X.xe s := by
  obtain ⟨ρ1, F1, rs, ρ, F, l0, g, h1, h2, P, o⟩ := q
  cases e : pickL pk (.bo ρ1.length :: rs) (dds.map .v) with
  | none => rw [e] at o; exact o.elim
  | some rc =>
    rw [e] at o
    have o : Out G X.K W (RepR G X.K) σ F H ρ (madeR ρ1.length (callR fv rc (ρ1 ++ [some (.own false (.obj c [] []))]))) Q := o
    obtain ⟨x0, hx0⟩ : ∃ x, x = s.heap.objs.size + 1 := ⟨_, rfl⟩
    obtain ⟨dx, hdx0⟩ : ∃ x, x = s.heap.objs.size := ⟨_, rfl⟩
    have hx : H1 x0 = none := I.hok.fresh (by omega)
    have hdx : H1 dx = none := I.hok.fresh (by omega)
    have I2 := Inv.made (C := G.ca c) I
    rw [← hx0, ← hdx0] at I2
    have hl := g.sl.len
    have l2 := sl_ext (c := c) g.sl g.sub hx hdx
    have P2 : RepP G X.K H F1 (mkH H1 (G.ca c) x0 dx) (σ ++ [some (.ref x0)]) (ρ1 ++ [some (.own false (.obj c [] []))]) (.bo ρ1.length :: rs) (.ref x0 :: (vs ++ zv)) := .cons (show (σ ++ [some (V.ref x0)])[ρ1.length]? = _ by rw [← hl, app_last]) (P.ext hl hx hdx)
    obtain ⟨cv, q1, q2⟩ := pick_rep P2 (rep_defs (hd F1)) e
    obtain ⟨its, q3, q4⟩ := B.ex
    obtain ⟨cs, q5, q6⟩ := pick_vals (us := .ref x0 :: (us ++ ws)) (.cons (show RelV (V.ref x0) (Value.ref x0) from rfl) (r.append rz)) q3 q1
    have sF : Sub F1 (mkH H1 (G.ca c) x0 dx) := fun b o h => mkH_keep hx hdx (g.sub b o h)
    have oE : Out G X.K (fun cls d _ H' => W cls d σ H') (RepR G X.K) (σ ++ [some (.ref x0)]) F1 (mkH H1 (G.ca c) x0 dx) (ρ1 ++ [some (.own false (.obj c [] []))]) (callR fv rc (ρ1 ++ [some (.own false (.obj c [] []))])) (fun v H2 => v = .non ∧ Q (.ref x0) H2) := by
      cases e2 : callR fv rc (ρ1 ++ [some (.own false (.obj c [] []))]) with
      | no => rw [e2] at o; exact o.elim
      | ex e' ρ3 =>
        rw [e2] at o
        exact fun cls d F' H' g' p => o cls d F' H' (g.trans (g'.drop g.sl hx hdx)) p
      | ok r' ρ3 =>
        rw [e2] at o
        cases r' with
        | fr d => exact o.elim
        | bo i => exact o.elim
        | v d =>
          cases d <;> first | exact o.elim | skip
          simp only [madeR] at o
          intro v F' H' g' p
          refine ⟨p, ?_⟩
          split at o
          · rename_i d hq
            exact o _ F' H' (g.trans (g'.drop g.sl hx hdx)) ((made_res g.sl hx hdx g' hq).older g.there)
          · rename_i d hq
            obtain ⟨w, k1, k2⟩ := g'.sl.val _ _ d hq
            rw [← hl, app_last] at k1
            cases k1
            exact o _ F' H' (g.trans (g'.drop g.sl hx hdx)) k2
          · exact o.elim
    obtain ⟨ρa, la, oa⟩ := out_call l2 q2 sF oE
    refine wpAny_call (make_map (f := f) I.kIn M.makes M.init (beq_iff_eq.mp M.fn) ?_)
    rw [← hx0, ← hdx0]
    refine codeAny_mono (Fn.run _ X.stack _ _ ⟨.ref x0 :: us, ks.zip ws⟩ cs cv _ (fun cls d H' => W cls d σ H') F1 ρa (hr.make (G.ca c) us _) (make_guards hg) (I2.env0.make (G.ca c) us _) (q4 _ (.ref x0 :: us) ws cs I2.kIn (by simp [← r.length, h1]) (by rw [← rz.length]; exact h2) q5) q6 ((pick_len q1).trans B.len) sF la oa) fun r s' hq => ?_
    cases r with
    | error e => exact tk e s' (XE.of_call I2 (fun _ _ _ h => h) hq)
    | ok fl =>
      cases fl with
      | ret u =>
        obtain ⟨v, H', I3, rv, ev, q7⟩ := I2.after hq
        subst ev
        exact ⟨rv, ⟨.ref x0, H', I3, rfl, q7⟩⟩
      | next => exact hq.elim
      | brk => exact hq.elim
      | cont => exact hq.elim
theorem se_make (M : Mk X.K (G.ca c) f) (Fn : FnU G X.prog X.w X.K X.mg X.base k f fd ps fv) (hr : Room (k + 1) X.A) (hg : X.A.guards = some []) (tk : Takes X W) (gl : Gl X x) (hm : X.mg x = some (.ref (G.ca c))) (B : BindU X.K fd ps (n + 1) [] pk dvs) (hd : ∀ F, RepL G X.K F dds dvs)
    (ha : SimA G X W (e :: es) fa) (hdb : (x == ("__debug__" : Str)) = false := by decide) (he : starEach (e :: es) X.env = (false, eval e X.env) :: starEach es X.env := by rfl) (hpl : (backTo pos (starEach es X.env)).any (·.1) = false := by rfl) : SimE G X W (.Call (.Name x p) (e :: es) [] pos) (eMake c n 0 pk dds fv fa aNil) :=
  ⟨fun pins s σ H Q I h => by
    refine wpAny_Call_Name_kw (ld_glob I gl hm ?_ hdb)
    refine PySem.W.callWith_K (h₀ := X.base) I.ok.mod.kin M.kp (thn (ha.run pos pins s σ H _ I (rd_args h)) fun us s1 ⟨vs, H1, I1, r, q⟩ => ⟨I1.kIn, ?_⟩) he hpl
    obtain ⟨ρ, F, s', l, o⟩ := q
    obtain ⟨ρ2, F2, rs, ρ0, F0, l0, g, h1, h2, P, o2⟩ := o.done (Go.refl s' l) .nil
    exact fin_make (ks := []) (ws := []) M Fn hr hg tk B hd I1 r .nil ⟨ρ2, F2, rs, ρ0, F0, l0, g, h1, h2, P, o2⟩⟩
theorem se_make0 (M : Mk X.K (G.ca c) f) (Fn : FnU G X.prog X.w X.K X.mg X.base k f fd ps fv) (hr : Room (k + 1) X.A) (hg : X.A.guards = some []) (tk : Takes X W) (gl : Gl X x) (hm : X.mg x = some (.ref (G.ca c))) (B : BindU X.K fd ps 1 [] pk dvs) (hd : ∀ F, RepL G X.K F dds dvs)
    (hdb : (x == ("__debug__" : Str)) = false := by decide) : SimE G X W (.Call (.Name x p) [] [] pos) (eMake c 0 0 pk dds fv aNil aNil) :=
  ⟨fun pins s σ H Q I h => by
    refine wpAny_Call_Name_kw (ld_glob I gl hm ?_ hdb)
    obtain ⟨ρ, F, s', l, o⟩ := rd_args h
    obtain ⟨ρ', F', s'', l', o'⟩ := o.done (Go.refl s' l) .nil
    exact PySem.W.callWith_K0 I.kIn M.kp (fin_make (n := 0) (ks := []) (us := []) (ws := []) M Fn hr hg tk B hd I .nil .nil (o'.done (Go.refl s'' l') .nil))⟩
theorem se_makeK (M : Mk X.K (G.ca c) f) (Fn : FnU G X.prog X.w X.K X.mg X.base k f fd ps fv) (hr : Room (k + 1) X.A) (hg : X.A.guards = some []) (tk : Takes X W) (gl : Gl X x) (hm : X.mg x = some (.ref (G.ca c))) (B : BindU X.K fd ps (n + 1) ks pk dvs) (hd : ∀ F, RepL G X.K F dds dvs)
    (ha : SimA G X W (e :: es) fa) (hw : SimK G X W kws fk) (hall : (backToKw pos (keywordEach kws X.env)).all (·.1.isSome) = true := by rfl) (hks : (backToKw pos (keywordEach kws X.env)).filterMap (·.1) = ks := by rfl) (hdb : (x == ("__debug__" : Str)) = false := by decide)
    (he : starEach (e :: es) X.env = (false, eval e X.env) :: starEach es X.env := by rfl) (hpl : ((backTo pos (starEach (e :: es) X.env)).any (·.1) || (backToKw pos (keywordEach kws X.env)).any (·.1.isNone)) = false := by rfl) : SimE G X W (.Call (.Name x p) (e :: es) kws pos) (eMake c n ks.length pk dds fv fa fk) :=
  ⟨fun pins s σ H Q I h => by
    refine wpAny_Call_Name_kw (ld_glob I gl hm ?_ hdb)
    refine PySem.W.callWith_KW (h₀ := X.base) I.ok.mod.kin M.kp hall (thn (ha.run pos pins s σ H _ I (rd_args h)) fun us s1 ⟨vs, H1, I1, r, q⟩ => thn (hw.run pos pins s1 σ H1 _ I1 q) fun ws s2 ⟨zv, H2, I2, rz, q2⟩ => ⟨I2.kIn, ?_⟩) hpl he
    rw [hks]
    exact fin_make M Fn hr hg tk B hd I2 r rz q2⟩
theorem se_makeK0 (M : Mk X.K (G.ca c) f) (Fn : FnU G X.prog X.w X.K X.mg X.base k f fd ps fv) (hr : Room (k + 1) X.A) (hg : X.A.guards = some []) (tk : Takes X W) (gl : Gl X x) (hm : X.mg x = some (.ref (G.ca c))) (B : BindU X.K fd ps 1 ks pk dvs) (hd : ∀ F, RepL G X.K F dds dvs)
    (hw : SimK G X W kws fk) (hall : (backToKw pos (keywordEach kws X.env)).all (·.1.isSome) = true := by rfl) (hks : (backToKw pos (keywordEach kws X.env)).filterMap (·.1) = ks := by rfl) (hdb : (x == ("__debug__" : Str)) = false := by decide)
    (hpl : ((backTo pos (starEach [] X.env)).any (·.1) || (backToKw pos (keywordEach kws X.env)).any (·.1.isNone)) = false := by rfl) : SimE G X W (.Call (.Name x p) [] kws pos) (eMake c 0 ks.length pk dds fv aNil fk) :=
  ⟨fun pins s σ H Q I h => by
    refine wpAny_Call_Name_kw (ld_glob I gl hm ?_ hdb)
    obtain ⟨ρ, F, s', l, o⟩ := rd_args h
    refine PySem.W.callWith_KW0 (h₀ := X.base) I.ok.mod.kin M.kp hall (thn (hw.run pos pins s σ H _ I (o.done (Go.refl s' l) .nil)) fun ws s2 ⟨zv, H2, I2, rz, q2⟩ => ⟨I2.kIn, ?_⟩) hpl
    rw [hks]
    exact fin_make (n := 0) (us := []) M Fn hr hg tk B hd I2 .nil rz q2⟩
end
end
end U
end part_U15

section part_U16
set_option Elab.async false
set_option linter.all false
set_option maxRecDepth 100000
set_option maxHeartbeats 1000000
/-! U16: own exceptions whose __init__ goes through super(). -/
namespace U
open PySem PyProof.Rows L2 NdefX
/-- a method of the class at D that says super() -/
structure SupDef (P : Program) (K : PySem.W.Frag) (mg : Str → Option Value) (name qual : Str) (params : Arguments) (body : List Stmt) (scope : Scope) (f D cc cda : Addr) (fd : FuncData) : Prop where
  ex : ∃ (oc : Value) (od : Option Addr) (kV doc pm : Value) (an : Option Addr) (ct : Value) (osl : Array (Option Value)), fd = PySem.W.ksFn name qual params body scope .none kV doc pm an (.ref cda) ct cc ∧ K.lookup f = some ⟨oc, od, .func fd, osl⟩
  hcd : PySem.W.codeIn K (.ref cda) qual = true
  code : ∃ (ccl : Value) (cdd : Option Addr) (vs : Array Value) (ccs : Array (Option Value)) (file : Str) (tf : Tok), K.lookup cda = some ⟨ccl, cdd, .fields vs, ccs⟩ ∧ vs[2]? = some (.str file tf) ∧ ((P.main.file : Str) == file) = true
  cell : ∃ (cl : Value) (cld : Option Addr) (csl : Array (Option Value)), K.lookup cc = some ⟨cl, cld, .cell (some (.ref D)), csl⟩
  cls : ∃ cdD, PySem.W.clsIn K D = some cdD
  top : (P.main.scope.names.lookup ("super" : Str)).isSome = false
  nosup : mg "super" = none
  opq : PySem.W.nsIn K cStatics "thirdparty.any" = some none
abbrev supNF (name qual : Str) (params : Arguments) (body : List Stmt) (scope : Scope) (cc cda : Addr) : NF := ⟨name, qual, params, body, scope, [("__class__", cc)], cda⟩
abbrev supCx (CX : CXT) (P : Program) (w : World) (K : PySem.W.Frag) (mg : Str → Option Value) (base : Heap) (N : List Str) (name qual : Str) (params : Arguments) (body : List Stmt) (scope : Scope) (f cc cda : Addr) (A : Around) (outer : List Env) (s : Shared) (H : Hp) (E : XK) : Cx :=
  ncx CX P w K mg base N (supNF name qual params body scope cc cda) f A outer s H E
section
variable {CX : CXT} {P : Program} {w : World} {K : PySem.W.Frag} {mg : Str → Option Value} {base : Heap} {N ps : List Str} {name qual : Str} {params : Arguments} {body : List Stmt} {scope : Scope} {f D cc cda C a : Addr} {fd : FuncData} {A : Around} {outer : List Env} {s0 s : Shared} {H0 H : Hp} {E0 : XK} {pins : List (Addr × Obj)} {σ : L2.St}
/-- super(): the new object -/
theorem sup_base {bd : List Stmt} {p0 p1 : Pos} {attr : Str} {whole : Sem Value} {ar : Arg} {E : Value → Shared → Prop} {Q : Value → Shared → Prop} {d : Option Addr} (T : SupDef P K mg name qual params body scope f D cc cda fd) (I : Inv (supCx CX P w K mg base N name qual params body scope f cc cda A outer s0 H0 E0) pins σ H s)
    (hk : scope.kind = .function) (hp : (params.posonlyargs ++ params.args).head? = some ar) (hN : N[0]? = some ar.arg) (hσ : σ[0]? = some (some (.ref a))) (hka : scope.names.lookup ar.arg = some .local) (hks : scope.names.lookup ("super" : Str) = some .globalImplicit) (hkc : scope.names.lookup ("__class__" : Str) = some .free)
    (he : H a = some (exo a C d)) (hsub : PySem.W.mroIn K C (.ref D) = some true) (hat : (attr == ("__class__" : Str)) = false)
    (h : ∀ so s', Inv (supCx CX P w K mg base N name qual params body scope f cc cda A outer s0 H0 E0) pins σ H s' → s'.heap.get? so = some (PySem.W.ks_superObj D a C) → Q (.ref so) s') :
    PySem.wpAt (model P w) (A.deeper (PySem.W.envX qual scope s0.heap.objs.size f (.ref cda) [("__class__", cc)])) (.func bd (PySem.W.envX qual scope s0.heap.objs.size f (.ref cda) [("__class__", cc)])) (attributeBase (.Call (.Name "super" p0) [] [] p1) attr (PySem.W.envX qual scope s0.heap.objs.size f (.ref cda) [("__class__", cc)]) whole) Q E s := by
  obtain ⟨oc, od, kV, doc, pm, an, ct, osl, rfl, lk⟩ := T.ex
  obtain ⟨ccl, cdd, vs, ccs, file, tf, hcode, hvs, hfile⟩ := T.code
  obtain ⟨cl, cld, csl, hcell⟩ := T.cell
  obtain ⟨cdD, hD⟩ := T.cls
  obtain ⟨mb, hb1, hb2⟩ := I.mod.blt
  have KX : K.In s.heap := I.kIn
  obtain ⟨oD, hD1, hD2⟩ : ∃ oD, s.heap.get? D = some oD ∧ oD.data = .cls cdD := by
    unfold PySem.W.clsIn at hD
    split at hD
    · rename_i c dd cd' sl ho
      cases hD
      exact ⟨_, KX _ _ ho, rfl⟩
    · cases hD
  obtain ⟨t1, hx⟩ := exo_at I.hok he
  obtain ⟨m, hns, hloc⟩ := I.loc
  obtain ⟨u, ru, look⟩ := hloc 0 ar.arg (.ref a) hN hσ (.inl hka)
  obtain rfl : u = Value.ref a := ru
  have hm : m ar.arg = some (.ref a) := by
    rcases look with ⟨_, z⟩ | ⟨z, _⟩
    · exact z
    · have hz : scope.names.lookup ar.arg = some .cell ∨ scope.names.lookup ar.arg = some .free := z
      rw [hka] at hz
      rcases hz with hz | hz <;> cases hz
  have hg := I.mod.glob.keeps I.bk
  obtain ⟨hh, g, dr, tk, os⟩ := s
  refine PySem.ks_wpAt_super_base (env := PySem.W.envX qual scope s0.heap.objs.size f (.ref cda) [("__class__", cc)]) hks hkc hat rfl (KX _ _ lk) rfl hp rfl (KX _ _ hcode) rfl hvs hfile T.top ?_
  refine PySem.W.ks_loadName_global hk hks (Calls.loadGlobal_builtin (env := PySem.W.envX qual scope s0.heap.objs.size f (.ref cda) [("__class__", cc)]) hg T.nosup (hb1.keeps I.bk) ((hb2 _ (by decide +kernel)).trans (by first | rfl | exact PyProof.Rows.Boot.«super» | decide +kernel)) ⟨rfl, ?_⟩)
  refine wpAny_loadName_free hk hkc rfl ⟨_, KX _ _ hcell, rfl⟩ ?_
  refine wpAny_loadName_local hk hka hns hm ?_
  refine PySem.ks_wpAny_isType_cls hD1 hD2 ⟨rfl, ?_⟩
  refine PySem.ks_wpAny_call_super hD1 hD2 hx rfl (fun c e => nomatch e) (PySem.W.looks_mroIn KX hsub) (fun h' e k => ?_)
  exact h _ _ (I.kept k) e
end
section
variable {X : Cx} {pins : List (Addr × Obj)} {σ : L2.St} {H : Hp} {s : Shared} {a C D f2 so : Addr} {d : Option Addr} {name : Str} {pl : Sem Bool} {A : Around} {E : Value → Shared → Prop}
theorem exo_inst (I : Inv X pins σ H s) (he : H a = some (exo a C none)) : ∃ t1 : Addr, PySem.W.InstAt s.heap a ({ cls := .ref C, dict := none, data := .fields #[.ref t1, .none, .none, .none, .bool false, .none] } : Obj) C none := by
  obtain ⟨t1, hx⟩ := exo_at I.hok he
  exact ⟨t1, hx, rfl, rfl, trivial⟩
/-- the method that super finds: a def -/
theorem sup_meth {Q : Value × List Value → Shared → Prop} (I : Inv X pins σ H s) (hso : s.heap.get? so = some (PySem.W.ks_superObj D a C)) (he : H a = some (exo a C none)) (ho : PySem.W.nsIn X.K cStatics "thirdparty.any" = some none) (hm : PySem.W.ks_superIn X.K C D name = some (some (.ref f2)))
    (ht : PySem.W.typeIn X.K (.ref f2) = some (.type "function")) (hn : (name == ("__class__" : Str)) = false) (h : ∀ q s', Inv X ((q, PySem.W.methodObj (.ref f2) (.ref a)) :: pins) σ H s' → X.base.get? q = none → Q (.ref q, []) s') : wpAny (model X.prog X.w) A (getMethod (.ref so) name pl) Q E s := by
  have KX := I.kIn
  obtain ⟨t1, J⟩ := exo_inst I he
  have M := ClX.met_new (g := f2) (C := a) I
  have hb := ClX.base_none I (Nat.le_refl s.heap.objs.size)
  obtain ⟨hh, g, dr, tk, os⟩ := s
  cases hc : PySem.W.clsIn X.K C with
  | none => unfold PySem.W.ks_superIn at hm; rw [hc] at hm; cases hm
  | some cd =>
    unfold PySem.W.ks_superIn at hm
    rw [hc] at hm
    obtain ⟨of, hof, hofc⟩ : ∃ of, hh.get? f2 = some of ∧ of.cls = .type "function" := by
      have ht' : (X.K.lookup f2).map (·.cls) = some (.type "function") := ht
      cases z : X.K.lookup f2 with
      | none => rw [z] at ht'; cases ht'
      | some of => rw [z] at ht'; exact ⟨of, KX _ _ z, Option.some.inj ht'⟩
    exact ks_wpAny_getMethod_super hso (PySem.W.looks_opaque KX ho) (l₀ := cd.mro) (fun A Q E s k q => wpAny_bind ((PySem.W.looks_clsIn KX hc) A _ E s k (wpAny_pure q))) rfl KX hm hof hofc (PySem.W.ks_ne KX J hc) hn (h _ _ M hb)
/-- .. ValueError's -/
theorem sup_ve {Q : Value × List Value → Shared → Prop} (I : Inv X pins σ H s) (hso : s.heap.get? so = some (PySem.W.ks_superObj D a C)) (he : H a = some (exo a C none)) (ho : PySem.W.nsIn X.K cStatics "thirdparty.any" = some none) (hm : PySem.W.ks_superIn X.K C D name = some (some (.builtin "ValueError.__init__")))
    (hB : PySem.W.subIn X.K (.ref C) (.type "ValueError") = some true) (hn : (name == ("__class__" : Str)) = false) (h : ∀ q s', Inv X ((q, PySem.W.kxs_mw "ValueError.__init__" a) :: pins) σ H s' → Q (.ref q, []) s') : wpAny (model X.prog X.w) A (getMethod (.ref so) name pl) Q E s := by
  have KX := I.kIn
  obtain ⟨t1, J⟩ := exo_inst I he
  have hI : PySem.W.Looks (model X.prog X.w) s.heap (isInstance (.ref a) (.type "ValueError")) true := J.type.andThen (PySem.W.looks_subIn KX hB)
  have M : Inv X ((s.heap.objs.size, PySem.W.kxs_mw "ValueError.__init__" a) :: pins) σ H { s with heap := s.heap.push (PySem.W.kxs_mw "ValueError.__init__" a), toks := s.toks + 1 } :=
    ClX.pin_new I (fun _ _ z => Heap.get?_push_of_some _ z) (Nat.le_refl _) (Heap.get?_push_size s.heap rfl) (fun v z => nomatch z)
  obtain ⟨hh, g, dr, tk, os⟩ := s
  cases hc : PySem.W.clsIn X.K C with
  | none => unfold PySem.W.ks_superIn at hm; rw [hc] at hm; cases hm
  | some cd =>
    unfold PySem.W.ks_superIn at hm
    rw [hc] at hm
    exact PySem.W.kxs_getMethod PySem.W.kxs_ValueError hso (PySem.W.looks_opaque KX ho) (l₀ := cd.mro) (fun A Q E s k q => wpAny_bind ((PySem.W.looks_clsIn KX hc) A _ E s k (wpAny_pure q))) rfl KX hm hI (PySem.W.ks_ne KX J hc) hn (h _ _ M)
/-- the wrapper of ValueError.__init__, called -/
theorem call_mw {us : List Value} {q : Addr} {Q : Value → Shared → Prop} (T : OexC X.K C) (I : Inv X ((q, PySem.W.kxs_mw "ValueError.__init__" a) :: pins) σ H s) (he : H a = some (exo a C none)) (hl : us.length ≤ sizeLine) (h : ∀ s', Inv X pins σ H s' → Q .none s') :
    wpAny (model X.prog X.w) A (call (.ref q) us) Q E s := by
  obtain ⟨nm, qn, N, bs, bm, sn, sub, ab, col, dd, k0, k1, k2, k3, k5, hC, hbm⟩ := T.cls
  obtain ⟨t1, ho⟩ := exo_at I.hok he
  have hq := ClX.pin_at I
  have I0 := ClX.unpin I
  have KX := I.kIn
  obtain ⟨hh, g, dr, tk, os⟩ := s
  refine wpAny_call (codeAny_of_tree ?_)
  show wpAny _ A.in1 (callAny (.ref q) ⟨us, []⟩) _ _ _
  simp only [callAny]
  refine wpAny_bind (wpAny_load hq ?_)
  simp only [PySem.W.kxs_mw, show (Value.type "method-wrapper" == Value.type "method" || Value.type "method-wrapper" == Value.type "builtin_function_or_method" || Value.type "method-wrapper" == Value.type "method-wrapper") = true by decide, if_true]
  refine PySem.W.KFB.if_so (by decide) ?_
  refine wpAny_bind (PySem.W.check_bound_init (F.excBase_ValueError).toExcCallFacts (KX _ _ hC) ho rfl ?_)
  refine wpAny_bind (wpAny_pure (wpAny_pure ?_))
  refine ⟨plainId_quiet (F.excBase_ValueError).init.plain _, codeAny_builtin (F.excBase_ValueError).initEntry ?_⟩
  refine PySem.W.exc_init_tree (cls := .ref C) (t0 := t1) (dv := none) (c2 := .none) (c3 := .none) (b4 := .bool false) ho hl fun h' k e' _ => ?_
  have J := I0.write (t' := tk) (x := a) (e := a) (o := exo a C none) (by rw [he]; exact True.intro) (.inl rfl) k ⟨_, e'⟩ (exo_ok e')
  have eu : upd H a (exo a C none) = H := by
    funext b
    by_cases hb : b = a
    · rw [hb, upd_same, he]
    · rw [upd_ne hb]
  rw [eu] at J
  exact h _ J
end
end U
end part_U16

section part_U17
set_option Elab.async false
set_option linter.all false
set_option maxRecDepth 100000
set_option maxHeartbeats 1000000
/-! U17: the errors' own __init__. -/
namespace U
open PySem PyProof.Rows L2 NdefX StX
/-- super().__init__('m') -/
abbrev supCall (m : Str) (j : Nat) (p0 p1 p2 p3 p4 p5 : Pos) : Stmt := .Expr (.Call (.Attribute (.Call (.Name "super" p0) [] [] p1) "__init__" p2) [.Constant (.str m) j p3] [] p4) p5
/-- how its call is evaluated -/
def SupEval (p0 p1 p2 p3 p4 : Pos) (m : Str) (j : Nat) (env : Env) (pl : Sem Bool) : Prop := eval (.Call (.Attribute (.Call (.Name "super" p0) [] [] p1) "__init__" p2) [.Constant (.str m) j p3] [] p4) env = (do
  let ov ← attributeBase (.Call (.Name "super" p0) [] [] p1) "__init__" env (eval (.Call (.Name "super" p0) [] [] p1) env)
  standAt p2.atName
  let (f, first) ← holding [ov] (getMethod ov "__init__" pl)
  callWith p4 f first (backTo p4 (starEach [.Constant (.str m) j p3] env)) [])
/-- what the text says of an error's class C, over the base at D -/
structure ErrC (K : PySem.W.Frag) (C D : Addr) : Prop where
  ox : OexC K C
  mro : PySem.W.mroIn K C (.ref D) = some true
  init : PySem.W.ks_superIn K C D "__init__" = some (some (.builtin "ValueError.__init__"))
  ve : PySem.W.subIn K (.ref C) (.type "ValueError") = some true
  told : PySem.W.findIn K (.ref C) "values_told" = some none
def toldH (H : Hp) (a C T dx : Addr) (rest : List V) : Hp := upd (upd (upd H T (.tup rest)) dx (exd dx [("values_told", .ref T)])) a (exo a C (some dx))
/-- what the base's __init__ promises -/
def spPost (K : PySem.W.Frag) (D : Addr) : Sp := fun vs H Q _ => ∃ a C rest, vs = .ref a :: rest ∧ rest.length ≤ 1000 ∧ ErrC K C D ∧ H a = some (exo a C none) ∧ ∀ T dx, H T = none → H dx = none → T ≠ dx → dx ≠ a → Q .non (toldH H a C T dx rest)
section
variable {P : Program} {w : World} {K : PySem.W.Frag} {mg : Str → Option Value} {base : Heap} {name qual : Str} {params : Arguments} {body : List Stmt} {scope : Scope} {f D cc cda : Addr} {fd : FuncData}
theorem wpAt_up {α : Type} {M : Model} {A : Around} {c : Code} {t : Sem α} {Q : α → Shared → Prop} {E : Value → Shared → Prop} {s : Shared} (h : wpAny M A t Q E s) : PySem.wpAt M A c t Q E s := wpAt_of_wpAny h
theorem cr_up {A : Around} {outer : List Env} {s s2 : Shared} {H H2 : Hp} {Q : VK} {E : XK} (un : Un (frs outer) [] H H2 s.heap s2.heap) (kp : ∀ b o, s.heap.get? b = some o → s2.heap.get? b = some o) (ho : s2.os = s.os) {r : Result} {s' : Shared} (h : CR (L2.CX P w) outer P w H2 s2 Q E r s') : CR (L2.CX P w) outer P w H s Q E r s' := by
  cases r with
  | error e => exact cxUp outer s H s2 H2 E e s' un kp ho h
  | ok fl =>
    cases fl with
    | ret u =>
      obtain ⟨v, H', h1, h2, h3, h4, h5⟩ := h
      exact ⟨v, H', h1.trans ho, h2, un.trans h3, h4, h5⟩
    | next => exact h
    | brk => exact h
    | cont => exact h
theorem sup_cells {A : Around} {outer : List Env} {s : Shared} {H : Hp} (T : SupDef P K mg name qual params body scope f D cc cda fd) (e0 : Env0 P w K mg base A outer s H) : CellsAt [(("__class__" : Str), cc)] ["__class__"] [none] s.heap H := by
  obtain ⟨cl, cld, csl, hcell⟩ := T.cell
  have hb := e0.bs _ _ (e0.mod.kin _ _ hcell)
  have key : ∀ {y : Str} {c : Addr}, [(("__class__" : Str), cc)].lookup y = some c → y = "__class__" ∧ c = cc := fun {y c} e => by
    simp only [List.lookup] at e
    split at e
    · rename_i hq
      cases e
      exact ⟨by simpa using hq, rfl⟩
    · cases e
  refine ⟨rfl, fun y c e => ?_, fun x y c e e' => ?_, fun i y e => ?_⟩
  · obtain ⟨_, rfl⟩ := key e
    exact ⟨hb.2, _, _, hb.1, rfl⟩
  · rw [(key e).1, (key e').1]
  · cases i with
    | zero =>
      simp at e; subst e
      exact ⟨cc, by simp [List.lookup], fun v hv => by simp at hv⟩
    | succ i => simp at e
/-- the base's __init__ -/
theorem post_init {k : Nat} {m : Str} {j : Nat} {p0 p1 p2 p3 p4 p5 q1 q2 q3 q4 : Pos} {ar : Arg} {N : List Str} (T : SupDef P K mg name qual params body scope f D cc cda fd) (hbody : body = [supCall m j p0 p1 p2 p3 p4 p5, .Assign [.Attribute (.Name "self" q1) "values_told" q2] (.Name "values" q3) q4])
    (S : NScope N ["self", "values"] ["__class__"] scope) (hN : N = (["self", "values", "__class__"] : List Str)) (hself : scope.names.lookup ("self" : Str) = some .local) (hvals : scope.names.lookup ("values" : Str) = some .local) (hks : scope.names.lookup ("super" : Str) = some .globalImplicit) (hkc : scope.names.lookup ("__class__" : Str) = some .free)
    (hp : (params.posonlyargs ++ params.args).head? = some ar) (har : ar.arg = "self")
    (hb : ∀ (a : Value) (rest : List Value), bindArgs fd ⟨a :: rest, []⟩ = (newTuple rest >>= fun t => pure [(("self" : Str), a), (("values" : Str), t)])) (hi : ∀ L, interactive (PySem.W.envX qual scope L f (.ref cda) [("__class__", cc)]) = false)
    (hev : ∀ L, ∃ pl : Sem Bool, SupEval p0 p1 p2 p3 p4 m j (PySem.W.envX qual scope L f (.ref cda) [("__class__", cc)]) pl)
    (hsw : ∀ L, swapsWith (.Name "values" q3) (some (.Attribute (.Name "self" q1) "values_told" q2)) q4.line (PySem.W.envX qual scope L f (.ref cda) [("__class__", cc)]) = pure false) : FnR P w K mg base (L2.CX P w) (k + 1) f (spPost K D) := by
  intro A outer s H us vs Q E hr e0 rv hsp
  obtain ⟨a, C, rest, rfl, hlen, EC, he, hq⟩ := hsp
  obtain ⟨oc, od, kV, doc, pm, an, ct, osl, efd, lk⟩ := id T.ex
  have KX : K.In s.heap := e0.mod.kin.keeps fun b o e => (e0.bs b o e).1
  cases rv with
  | @cons _ u0 _ ur ra rr =>
    obtain rfl : u0 = Value.ref a := ra
    have hz : rest.length ≤ sizeLine := Nat.le_trans hlen (by rw [sizeLine_eq]; decide)
    have hz2 : ur.length ≤ sizeLine := by rw [← rr.length]; exact hz
    have hn : H s.heap.objs.size = Option.none := e0.hok.fresh (Nat.le_refl _)
    have new : ObjOk P w (upd H s.heap.objs.size (.tup rest)) (s.heap.push ({ cls := .type "tuple", data := .seq ur.toArray } : Obj)) s.heap.objs.size (.tup rest) := ⟨hz, ur, rr, ⟨_, Heap.get?_push_size _ rfl, rfl, _, rfl⟩⟩
    have un := un_laid (fs := frs outer) (s := s) (o := ({ cls := .type "tuple", data := .seq ur.toArray } : Obj)) (u := .tup rest) hn
    have e1 := env0_laid e0 new
    have upx : ∀ e s', L2.CX P w outer (upd H s.heap.objs.size (.tup rest)) { s with heap := s.heap.push ({ cls := .type "tuple", data := .seq ur.toArray } : Obj) } E e s' → L2.CX P w outer H s E e s' := fun e s' => cxUp outer s H _ _ E e s' un (fun b o q => Heap.get?_push_of_some _ q) rfl
    generalize hs2 : ({ s with heap := s.heap.push ({ cls := .type "tuple", data := .seq ur.toArray } : Obj) } : Shared) = s2 at e1 upx
    generalize hT : s.heap.objs.size = T0 at hn un e1 upx new
    have he2 : (upd H T0 (.tup rest)) a = some (exo a C none) := by rw [upd_ne (ne_of_none he hn)]; exact he
    have lim : s2.heap.NoLimit := e1.mod.nolimit.keeps fun b o e => (e1.bs b o e).1
    have fdS : fd.scope = scope := by rw [efd]
    refine codeAny_call_function hr.depth (KX _ _ lk) rfl (by rw [fdS]; exact S.co) (by rw [fdS]; exact S.gen) (body := body) (by rw [efd]) (by rw [efd]; exact PySem.W.codeRec_of KX T.hcd) ?_
    rw [hb]
    refine wpAny_bind (wpAny_newTuple (wpAny_pure ?_) hz2)
    rw [hs2, hT]
    rw [efd]
    have un2 : Un (frs outer) [] H (upd H T0 (.tup rest)) s.heap s2.heap := by rw [← hs2]; exact un
    have kp2 : ∀ b o, s.heap.get? b = some o → s2.heap.get? b = some o := fun b o e => by rw [← hs2]; exact Heap.get?_push_of_some _ e
    refine wpAny_newFunctionEnv (s := s2) S.nocell (fun y hy => ?_) (fun h₁ hns hsb => ⟨lim.fresh _ hsb, ?_⟩) S.kind
    · rcases List.mem_cons.mp hy with rfl | hy
      · exact hself
      · rcases List.mem_cons.mp hy with rfl | hy
        · exact hvals
        · cases hy
    have kp : ∀ b o, s2.heap.get? b = some o → h₁.get? b = some o := fun b o e => hsb.extBut b o (Nat.ne_of_lt (Heap.lt_size e)) (Heap.get?_push_of_some _ e)
    refine codeAny_mono (R := CR (L2.CX P w) outer P w (upd H T0 (.tup rest)) s2 Q E) ?_ fun r s' => cr_up (A := A) un2 kp2 (by rw [← hs2])
    have I : Inv (supCx (L2.CX P w) P w K mg base N name qual params body scope f cc cda A outer s2 (upd H T0 (.tup rest)) E) [] (startF N [.ref a, .ref T0] [none]) (upd H T0 (.tup rest)) { s2 with heap := h₁, toks := s2.toks + 2 } :=
      inv_startN (us := [.ref a, .ref T0]) S hr.hd e1 rfl (.cons rfl (.cons rfl .nil)) (sup_cells T e1) hns kp
    generalize hs3 : ({ s2 with heap := h₁, toks := s2.toks + 2 } : Shared) = s3 at I
    subst hN
    have hσ : startF (["self", "values", "__class__"] : List Str) [.ref a, .ref T0] [none] = [some (.ref a), some (.ref T0), none] := rfl
    rw [hσ] at I
    show codeAny (model P w) A (.func body (PySem.W.envX qual scope s2.heap.objs.size f (.ref cda) [("__class__", cc)])) _ _
    refine ks_codeAny_funcAt ?_
    rw [hbody]
    obtain ⟨pl, hpl⟩ := hev s2.heap.objs.size
    refine ks_wpAt_execs_cons (ks_wpAt_Expr_any (ks_wpAt_MethodCall (pl := pl) (sup_base T I S.kind hp (by rw [har]; rfl) rfl (by rw [har]; exact hself) hks hkc he2 EC.mro rfl fun so s4 I4 hso => ?_) hpl) (hi _))
    refine sup_ve I4 hso he2 T.opq EC.init EC.ve rfl fun q s5 I5 => ?_
    show wpAny (model P w) (A.deeper (PySem.W.envX qual scope s2.heap.objs.size f (.ref cda) [("__class__", cc)])) (callWith p4 (.ref q) [] (backTo p4 [(false, eval (.Constant (.str m) j p3) (PySem.W.envX qual scope s2.heap.objs.size f (.ref cda) [("__class__", cc)]))]) []) _ _ s5
    have pa : PA (supCx (L2.CX P w) P w K mg base (["self", "values", "__class__"] : List Str) name qual params body scope f cc cda A outer s2 (upd H T0 (.tup rest)) E) [.Constant (.str m) j p3] (tCons (tC (.str m)) tNil) := pa_cons pe_str pa_nil
    refine PySem.W.kxs_callWith (i := "ValueError.__init__") (x := a) rfl (Calls.evalArgs_plain (thn (pa.run p4 _ s5 _ _ (fun vs H' => vs = [.str m] ∧ H' = upd H T0 (.tup rest)) I5 ⟨rfl, rfl⟩) fun ws s6 ⟨vs6, H6, I6, r6, ev6, eH6⟩ => ?_))
    subst ev6 eH6
    refine ⟨ClX.pin_at I6, ?_⟩
    have hw : ws.length ≤ sizeLine := by rw [← r6.length, sizeLine_eq]; show 1 ≤ _; decide
    refine call_mw EC.ox I6 he2 hw fun s7 I7 => ?_
    show PySem.wpAt _ _ _ (execs _ _) _ _ s7
    refine wpAt_of_wpAny ?_
    have ps := pss_one (X := supCx (L2.CX P w) P w K mg base (["self", "values", "__class__"] : List Str) name qual params body scope f cc cda A outer s2 (upd H T0 (.tup rest)) E) (ps_ost (f := "values_told") (p' := q2) (pos := q4) (pe_var (i := 0) (x := "self") (pos := q1) rfl (.inl hself)) (pe_var (i := 1) (x := "values") (pos := q3) rfl (.inl hvals)) (hsw s2.heap.objs.size))
    have fin := ps.run [] s7 _ _ { nx := fun _ H' => Q .non H', rt := Q } I7 ⟨.ref T0, rfl, .ref a, rfl, a, C, rfl, EC.ox, EC.told, .inl ⟨he2, fun dx hdx ne => ?_⟩⟩
    · refine wpAny_mono fin (fun fl s8 hs => ?_) fun e s8 z => z
      cases fl with
      | next =>
        obtain ⟨σ', H', J, q⟩ := hs
        exact ⟨.non, H', J.os, J.bare, J.base, J.hok, rfl, q⟩
      | ret u =>
        obtain ⟨v, σ', H', J, rv, q⟩ := hs
        exact ⟨v, H', J.os, J.bare, J.base, J.hok, rv, q⟩
      | brk =>
        obtain ⟨_, _, _, q⟩ := hs
        exact q.elim
      | cont =>
        obtain ⟨_, _, _, q⟩ := hs
        exact q.elim
    · have h2 : T0 ≠ dx := fun z => by rw [← z, upd_same] at hdx; cases hdx
      rw [upd_ne h2.symm] at hdx
      exact hq T0 dx hn hdx h2 ne
/-- an error's own __init__: super().__init__('m'), then the fields -/
theorem err_init {k : Nat} {m : Str} {j : Nat} {p0 p1 p2 p3 p4 p5 : Pos} {ar : Arg} {N ps : List Str} {rest : List Stmt} {C fP : Addr} {t : TS} {sp : Sp} (T : SupDef P K mg name qual params body scope f C cc cda fd) (hbody : body = supCall m j p0 p1 p2 p3 p4 p5 :: rest)
    (S : NScope N ps ["__class__"] scope) (hN0 : N[0]? = some ("self" : Str)) (hself : scope.names.lookup ("self" : Str) = some .local) (hks : scope.names.lookup ("super" : Str) = some .globalImplicit) (hkc : scope.names.lookup ("__class__" : Str) = some .free)
    (hp : (params.posonlyargs ++ params.args).head? = some ar) (har : ar.arg = "self") (hi : ∀ L, interactive (PySem.W.envX qual scope L f (.ref cda) [("__class__", cc)]) = false)
    (hev : ∀ L, ∃ pl : Sem Bool, SupEval p0 p1 p2 p3 p4 m j (PySem.W.envX qual scope L f (.ref cda) [("__class__", cc)]) pl) (EC : ErrC K C D) (mC : PySem.W.mroIn K C (.ref C) = some true) (fC : PySem.W.ks_superIn K C C "__init__" = some (some (.ref fP))) (tP : PySem.W.typeIn K (.ref fP) = some (.type "function")) (nP : PySem.W.fnIn K fP = true)
    (FP : FnR P w K mg base (L2.CX P w) k fP (spPost K D)) (hps : ∀ (A : Around) (outer : List Env) (s : Shared) (H : Hp) (E : XK), PSs (supCx (L2.CX P w) P w K mg base N name qual params body scope f cc cda A outer s H E) rest t)
    (hlen : ∀ vs H Q E, sp vs H Q E → vs.length = ps.length) (hsp : ∀ vs H Q E, sp vs H Q E → ∃ a ys, vs = .ref a :: ys ∧ H a = some (exo a C none) ∧ ∀ T dx, H T = none → H dx = none → T ≠ dx → dx ≠ a → t { nx := fun _ H' => Q .non H', rt := Q } (startF N vs [none]) (toldH H a C T dx [.str m])) : FnOk P w K mg base (L2.CX P w) (k + 1) f fd ps sp := by
  refine ⟨hlen, fun A outer s H args us vs Q E hr e0 hb rv h0 => ?_⟩
  obtain ⟨a, ys, rfl, he, hq⟩ := hsp _ _ _ _ h0
  have hl := hlen _ _ _ _ h0
  obtain ⟨oc, od, kV, doc, pm, an, ct, osl, efd, lk⟩ := id T.ex
  have KX : K.In s.heap := e0.mod.kin.keeps fun b o e => (e0.bs b o e).1
  have lim : s.heap.NoLimit := e0.mod.nolimit.keeps fun b o e => (e0.bs b o e).1
  have fdS : fd.scope = scope := by rw [efd]
  refine codeAny_call_function hr.depth (KX _ _ lk) rfl (by rw [fdS]; exact S.co) (by rw [fdS]; exact S.gen) (body := body) (by rw [efd]) (by rw [efd]; exact PySem.W.codeRec_of KX T.hcd) (hb _ _ _ _ ?_)
  rw [efd]
  refine wpAny_newFunctionEnv (s := s) S.nocell (fun ⟨n, _⟩ hy => S.par n (List.of_mem_zip hy).1) (fun h₁ hns hsb => ⟨lim.fresh _ hsb, ?_⟩) S.kind
  have kp : ∀ b o, s.heap.get? b = some o → h₁.get? b = some o := fun b o e => hsb.extBut b o (Nat.ne_of_lt (Heap.lt_size e)) (Heap.get?_push_of_some _ e)
  have I : Inv (supCx (L2.CX P w) P w K mg base N name qual params body scope f cc cda A outer s H E) [] (startF N (.ref a :: ys) [none]) H { s with heap := h₁, toks := s.toks + (ps.zip us).length } :=
    inv_startN S hr.hd e0 hl rv (sup_cells T e0) hns kp
  generalize hs3 : ({ s with heap := h₁, toks := s.toks + (ps.zip us).length } : Shared) = s3 at I
  have hσ : (startF N (.ref a :: ys) [none])[0]? = some (some (.ref a)) := rfl
  generalize hτ : startF N (.ref a :: ys) [none] = τ at I hσ hq
  show codeAny (model P w) A (.func body (PySem.W.envX qual scope s.heap.objs.size f (.ref cda) [("__class__", cc)])) _ _
  refine ks_codeAny_funcAt ?_
  rw [hbody]
  obtain ⟨pl, hpl⟩ := hev s.heap.objs.size
  refine ks_wpAt_execs_cons (ks_wpAt_Expr_any (ks_wpAt_MethodCall (pl := pl) (sup_base T I S.kind hp (by rw [har]; exact hN0) hσ (by rw [har]; exact hself) hks hkc he mC rfl fun so s4 I4 hso => ?_) hpl) (hi _))
  refine sup_meth I4 hso he T.opq fC tP rfl fun q s5 I5 hbq => ?_
  have pa : PA (supCx (L2.CX P w) P w K mg base N name qual params body scope f cc cda A outer s H E) [.Constant (.str m) j p3] (tCons (tC (.str m)) tNil) := pa_cons pe_str pa_nil
  refine ClX.callwith_cm (X := supCx (L2.CX P w) P w K mg base N name qual params body scope f cc cda A outer s H E) I5 hbq nP (thn (pa.run p4 _ s5 _ _ (fun vs H' => vs = [.str m] ∧ H' = H) I5 ⟨rfl, rfl⟩) fun ws s6 ⟨vs6, H6, I6, r6, ev6, eH6⟩ => ?_) rfl rfl
  subst ev6
  rw [eH6] at I6
  refine ⟨⟨ClX.pin_at I6, I6.kIn⟩, ?_⟩
  have hps0 : Passes (L2.CX P w) (supCx (L2.CX P w) P w K mg base N name qual params body scope f cc cda A outer s H E) (fun _ _ _ => False) := fun _ _ _ _ _ _ _ z => by
    obtain ⟨_, _, _, _, _, _, _, _, _, _, _, _, z⟩ := z
    exact z.elim
  have run := ClX.run_cm (X := supCx (L2.CX P w) P w K mg base N name qual params body scope f cc cda A outer s H E) (Q := fun v H' => v = .non ∧ ∃ T dx, H T = none ∧ H dx = none ∧ T ≠ dx ∧ dx ≠ a ∧ H' = toldH H a C T dx [.str m]) FP (hr.deeper _) hps0 I6 r6 ⟨a, C, _, rfl, by show 1 ≤ 1000; decide, EC, he, fun T dx h1 h2 h3 h4 => ⟨rfl, T, dx, h1, h2, h3, h4, rfl⟩⟩
  refine wpAny_mono run (fun u s7 hs7 => ?_) fun e s7 z => z
  obtain ⟨v, H7, I7, rv7, ev7, T0, dx, h1, h2, h3, h4, eH⟩ := hs7
  subst eH
  show PySem.wpAt _ _ _ (execs _ _) _ _ s7
  refine wpAt_of_wpAny ?_
  have fin := (hps A outer s H E).run [] s7 _ _ { nx := fun _ H' => Q .non H', rt := Q } I7 (hq T0 dx h1 h2 h3 h4)
  refine wpAny_mono fin (fun fl s8 hs => ?_) fun e s8 z => z
  cases fl with
  | next =>
    obtain ⟨σ', H', J, q⟩ := hs
    exact ⟨.non, H', J.os, J.bare, J.base, J.hok, rfl, q⟩
  | ret u =>
    obtain ⟨v, σ', H', J, rv, q⟩ := hs
    exact ⟨v, H', J.os, J.bare, J.base, J.hok, rv, q⟩
  | brk =>
    obtain ⟨_, _, _, q⟩ := hs
    exact q.elim
  | cont =>
    obtain ⟨_, _, _, q⟩ := hs
    exact q.elim
end
end U
end part_U17

section part_U18
set_option Elab.async false
set_option linter.all false
set_option maxRecDepth 100000
set_option maxHeartbeats 1000000
/-! U18: raise; comprehensions as expressions. -/
namespace U
open PySem PyProof.Rows L2 NdefX StX
/-- what an error's __init__ promises: m the text handed on, fs its fields -/
def spErr (C : Addr) (m : Str) (fs : List Str) : Sp := fun vs H Q _ => ∃ a ys, vs = .ref a :: ys ∧ ys.length = fs.length ∧ H a = some (exo a C none) ∧ ∀ T dx Hf, H T = none → H dx = none → T ≠ dx → dx ≠ a → T ≠ a → Hf a = some (exo a C (some dx)) → Hf dx = some (exd dx ((fs.zip ys).reverse ++ [(("values_told" : Str), V.ref T)])) →
  Hf T = some (.tup [.str m]) → (∀ b, b ≠ a → b ≠ dx → b ≠ T → Hf b = H b) → Q .non Hf
theorem told_at {H : Hp} {a C T dx : Addr} {rest : List V} (h1 : T ≠ dx) (h2 : dx ≠ a) (h3 : T ≠ a) : toldH H a C T dx rest a = some (exo a C (some dx)) ∧ toldH H a C T dx rest dx = some (exd dx [(("values_told" : Str), V.ref T)]) ∧ toldH H a C T dx rest T = some (.tup rest) ∧ ∀ b, b ≠ a → b ≠ dx → b ≠ T → toldH H a C T dx rest b = H b := by
  unfold toldH
  refine ⟨upd_same, by rw [upd_ne h2, upd_same], by rw [upd_ne h3, upd_ne h1, upd_same], fun b k1 k2 k3 => by rw [upd_ne k1, upd_ne k2, upd_ne k3]⟩
section
variable {P : Program} {w : World} {K : PySem.W.Frag} {C : Addr} {m f1 f2 : Str}
theorem sp_err1 (ox : OexC K C) (n1 : PySem.W.findIn K (.ref C) f1 = some none) {N : List Str} {vs : List V} {H : Hp} {Q : VK} {E : XK} (h : spErr C m [f1] vs H Q E) : ∃ a ys, vs = .ref a :: ys ∧ H a = some (exo a C none) ∧ ∀ T dx, H T = none → H dx = none → T ≠ dx → dx ≠ a →
    tOst K f1 (tVar 0) (tVar 1) { nx := fun _ H' => Q .non H', rt := Q } (startF N vs [none]) (toldH H a C T dx [.str m]) := by
  obtain ⟨a, ys, rfl, hl, he, k⟩ := h
  obtain ⟨y, rfl⟩ : ∃ y, ys = [y] := by
    match ys, hl with
    | [y], _ => exact ⟨y, rfl⟩
  refine ⟨a, _, rfl, he, fun T dx hT hdx h1 h2 => ?_⟩
  have h3 : T ≠ a := fun z => by rw [z, he] at hT; cases hT
  obtain ⟨k1, k2, k3, k4⟩ := told_at (H := H) (C := C) (rest := [.str m]) h1 h2 h3
  refine ⟨y, rfl, .ref a, rfl, a, C, rfl, ox, n1, .inr ⟨dx, _, k1, k2, (by show 1 ≤ 900; decide), ?_⟩⟩
  exact k T dx _ hT hdx h1 h2 h3 (by rw [upd_ne h2.symm]; exact k1) upd_same (by rw [upd_ne h1]; exact k3) fun b q1 q2 q3 => by rw [upd_ne q2]; exact k4 b q1 q2 q3
theorem sp_err2 (ox : OexC K C) (n1 : PySem.W.findIn K (.ref C) f1 = some none) (n2 : PySem.W.findIn K (.ref C) f2 = some none) {N : List Str} {vs : List V} {H : Hp} {Q : VK} {E : XK} (h : spErr C m [f1, f2] vs H Q E) : ∃ a ys, vs = .ref a :: ys ∧ H a = some (exo a C none) ∧ ∀ T dx, H T = none → H dx = none → T ≠ dx → dx ≠ a →
    tSeq (tOst K f1 (tVar 0) (tVar 1)) (tOst K f2 (tVar 0) (tVar 2)) { nx := fun _ H' => Q .non H', rt := Q } (startF N vs [none]) (toldH H a C T dx [.str m]) := by
  obtain ⟨a, ys, rfl, hl, he, k⟩ := h
  obtain ⟨y, z, rfl⟩ : ∃ y z, ys = [y, z] := by
    match ys, hl with
    | [y, z], _ => exact ⟨y, z, rfl⟩
  refine ⟨a, _, rfl, he, fun T dx hT hdx h1 h2 => ?_⟩
  have h3 : T ≠ a := fun z => by rw [z, he] at hT; cases hT
  obtain ⟨k1, k2, k3, k4⟩ := told_at (H := H) (C := C) (rest := [.str m]) h1 h2 h3
  refine ⟨y, rfl, .ref a, rfl, a, C, rfl, ox, n1, .inr ⟨dx, _, k1, k2, (by show 1 ≤ 900; decide), ?_⟩⟩
  refine ⟨z, rfl, .ref a, rfl, a, C, rfl, ox, n2, .inr ⟨dx, _, by rw [upd_ne h2.symm]; exact k1, upd_same, (by show 2 ≤ 900; decide), ?_⟩⟩
  exact k T dx _ hT hdx h1 h2 h3 (by rw [upd_ne h2.symm, upd_ne h2.symm]; exact k1) upd_same (by rw [upd_ne h1, upd_ne h1]; exact k3) fun b q1 q2 q3 => by rw [upd_ne q2, upd_ne q2]; exact k4 b q1 q2 q3
end
/-- raise C(e, ..): c the class, m the text its __init__ hands on, fs its fields -/
def sRaise (c : Nat) (m : Str) (fs : List Str) (as : AV) : SV := fun ρ => (as ρ).then fun rs ρ1 => match escAll rs ρ1 with
  | some (ds, ρ2) => if ds.length = fs.length then .ex (.obj c (fs.reverse ++ [("values_told" : Str)]) (ds.reverse ++ [.tup [.str m]])) ρ2 else .no
  | none => .no
section
variable {G : Glob} {X : Cx} {W : WX} {K : PySem.W.Frag} {σ σ1 σ' : L2.St} {F H H0 F1 H1 F' H' : Hp} {ρ ρ0 ρ1 ρ2 ρ' ρa : Ro} {rs zs rc : List Rv} {vs : List V} {e o : Expr} {es : List Expr} {fe fo : EV} {as : AV} {pos p : Pos}
theorem pass_false : Passes (L2.CX X.prog X.w) X (fun _ _ _ => False) := fun _ _ _ _ _ _ _ z => by
  obtain ⟨_, _, _, _, _, _, _, _, _, _, _, _, z⟩ := z
  exact z.elim
theorem repL_app {ds es : List D} {xs ys : List V} (h : RepL G K F ds xs) (h' : RepL G K F es ys) : RepL G K F (ds ++ es) (xs ++ ys) := h.append h'
theorem zip_fst {α β : Type} : ∀ {fs : List α} {ys : List β}, ys.length = fs.length → (fs.zip ys).map (·.1) = fs
  | [], [], _ => rfl
  | f :: fs, y :: ys, h => by simp [zip_fst (fs := fs) (ys := ys) (by simpa using h)]
theorem zip_snd {α β : Type} : ∀ {fs : List α} {ys : List β}, ys.length = fs.length → (fs.zip ys).map (·.2) = ys
  | [], [], _ => rfl
  | f :: fs, y :: ys, h => by simp [zip_snd (fs := fs) (ys := ys) (by simpa using h)]
theorem ss_raise {c k : Nat} {m : Str} {fs ps : List Str} {fI : Addr} {fd : FuncData} {x : Str} {pos' : Pos} (hc : X.calm = true) (tk : Takes X W) (T : OexC X.K (G.ca c)) (iC : PySem.W.findIn X.K (.ref (G.ca c)) "__init__" = some (some (.ref fI))) (tI : PySem.W.typeIn X.K (.ref fI) = some (.type "function"))
    (F1 : FnOk X.prog X.w X.K X.mg X.base (L2.CX X.prog X.w) k fI fd ps (spErr (G.ca c) m fs)) (hr : Room (k + 1) X.A) (hb : Binds X.K fd ps []) (hg : Gl X x) (hm : X.mg x = some (.ref (G.ca c))) (ha : SimA G X W (e :: es) as) (hfs : fs.length ≤ 1000 := by decide)
    (hdb : (x == ("__debug__" : Str)) = false := by decide) (he : starEach (e :: es) X.env = (false, eval e X.env) :: starEach es X.env := by rfl) (hpl : (backTo pos (starEach es X.env)).any (·.1) = false := by rfl) : SimS G X W (.Raise (some (.Call (.Name x p) (e :: es) [] pos)) none pos') (sRaise c m fs as) :=
  PS.of (ps_raise hc tk (pmk_oex (dvs := []) (ds := []) T iC tI F1 hr hb .nil pass_false hg hm ha hdb he hpl)) fun Dn σ H h => by
    refine rds1 h fun {F ρ} rs vs ρ1 F1 H1 l g1 p1 o1 => ?_
    cases e1 : escAll rs ρ1 with
    | none => simp only [e1] at o1; exact o1.elim
    | some q =>
      obtain ⟨ds, ρ2⟩ := q
      simp only [e1] at o1
      by_cases hl : ds.length = fs.length
      case neg => rw [if_neg hl] at o1; exact o1.elim
      rw [if_pos hl] at o1
      obtain ⟨F2, g2, r2, _⟩ := escAll_go l g1 p1 e1
      have hv : vs.length = fs.length := by rw [← r2.len]; exact hl
      refine ⟨by rw [hv]; exact hfs, fun a ha => ⟨a, vs, by rw [List.append_nil], hv, upd_same, fun T dx Hf hT hdx hne hna hTa e2 e3 e4 e5 => ⟨rfl, dx, _, e2, e3, ?_, ?_⟩⟩⟩
      · rw [upd_ne hna] at hdx; exact hdx
      rw [upd_ne hna] at hdx
      rw [upd_ne hTa] at hT
      have at1 : ∀ b o, H1 b = some o → upd (del Hf a) dx (.xd ((fs.zip vs).reverse ++ [(("values_told" : Str), V.ref T)])) b = some o := fun b o hb => by
        have b1 : b ≠ a := ne_of_none hb ha
        have b2 : b ≠ dx := ne_of_none hb hdx
        have b3 : b ≠ T := ne_of_none hb hT
        rw [upd_ne b2, del_ne b1, e5 b b1 b2 b3, upd_ne b1]
        exact hb
      have fT : F2 T = none := free_of g2.sub hT
      have fdx : F2 dx = none := free_of g2.sub hdx
      have sF : Sub F2 (upd (upd F2 T (.tup [.str m])) dx (.xd ((fs.zip vs).reverse ++ [(("values_told" : Str), V.ref T)]))) := fun b o hb => by
        rw [upd_ne (ne_of_none hb fdx), upd_ne (ne_of_none hb fT)]; exact hb
      have w : Grow F2 H1 (upd (upd F2 T (.tup [.str m])) dx (.xd ((fs.zip vs).reverse ++ [(("values_told" : Str), V.ref T)]))) (upd (del Hf a) dx (.xd ((fs.zip vs).reverse ++ [(("values_told" : Str), V.ref T)]))) := by
        refine ⟨fun b o hb => ?_, sF, at1, fun b hb => ?_⟩
        · by_cases h1 : b = dx
          · subst h1; rw [upd_same] at hb ⊢; exact hb
          · rw [upd_ne h1] at hb ⊢
            by_cases h2 : b = T
            · subst h2; rw [upd_same] at hb; cases hb
              rw [del_ne hTa]; exact e4
            · rw [upd_ne h2] at hb
              have := at1 b o (g2.sub b o hb)
              rw [upd_ne h1] at this
              exact this
        · by_cases h1 : b = dx
          · subst h1; exact .inr hdx
          · rw [upd_ne h1] at hb
            by_cases h2 : b = T
            · subst h2; exact .inr hT
            · rw [upd_ne h2] at hb; exact .inl hb
      refine o1 _ dx σ _ _ (g2.grow w) ⟨c, _, _, _, rfl, rfl, upd_same, ?_, ?_⟩
      · rw [List.map_append, List.map_reverse, zip_fst hv]; rfl
      · rw [List.map_append, List.map_reverse, zip_snd hv]
        refine repL_app (repL_rev (RepL.mono sF _ _ r2)) (repL_mk ?_ repL_mk0)
        unfold Rep
        exact ⟨T, [.str m], rfl, .inl (.inl (by rw [upd_ne hne, upd_same])), repL_mk rfl repL_mk0⟩
end
end U
end part_U18

section part_U19
set_option Elab.async false
set_option linter.all false
set_option maxRecDepth 100000
set_option maxHeartbeats 1000000
/-! U19: try with several clauses, each with a name or without. -/
namespace U
open PySem PyProof.Rows L2
/-- a clause: its class, its name's slot, its suite's reading -/
abbrev ClU := Value × Option Nat × (Addr → Value → Option Addr → TS)
def goneE (i : Nat) (D : Ends) : Ends := { nx := fun σ' H' => D.nx (σ'.set i none) H', rt := D.rt, bk := fun σ' H' => D.bk (σ'.set i none) H', ct := fun σ' H' => D.ct (σ'.set i none) H' }
def wClU (K : PySem.W.Frag) (Wout : WX) (D : Ends) : List ClU → WX
  | [] => Wout
  | (c, j, ts) :: r => fun cls d σ H => ∃ b, PySem.W.exmOne K cls c = some b ∧ (b = true → ∀ a, H a = none → match j with
      | none => ts a cls d D σ H
      | some i => ts a cls d (goneE i D) (σ.set i (some (.ref a))) H) ∧ (b = false → wClU K Wout D r cls d σ H)
/-- the clauses of the text -/
inductive HsU (X : Cx) : List ExceptHandler → List ClU → Prop
  | nil : HsU X [] []
  | cons {x : Str} {nm : Option Str} {c : Value} {j : Option Nat} {ts : Addr → Value → Option Addr → TS} {b₀ : Stmt} {suite : List Stmt} {np p' : Pos} {hds : List ExceptHandler} {l : List ClU} (hc : Names X x c)
      (hj : match nm, j with
        | none, none => True
        | some n, some i => X.N[i]? = some n ∧ X.env.kindOf n = some .local
        | _, _ => False)
      (hsu : ∀ (a : Addr) (oe : Obj) (cls : Value) (d : Option Addr) (pn : List (Addr × Obj)), Zc cls d oe → (∃ vs, oe.data = .fields vs) → PSs (X.suite a ((a, oe) :: pn)) (b₀ :: suite) (ts a cls d)) (r : HsU X hds l) :
      HsU X (.ExceptHandler (some (.Name x np)) nm (b₀ :: suite) p' :: hds) ((c, j, ts) :: l)
/-- an exception at a on the ground, in X's frame -/
structure Caught (X : Cx) (pins : List (Addr × Obj)) (a : Addr) (cls : Value) (d : Option Addr) (σ : L2.St) (H : Hp) (B : Heap) (sI t : Shared) : Prop where
  st : X.stack = X.env :: X.outer
  fr : X.env.frame = some X.env.locals
  J : Inv X pins σ H sI
  nb : ∀ b o, sI.heap.get? b = some o → b ∉ frs X.stack → B.get? b = some o
  up : sI.heap.UpToSlots t.heap
  fl : HandSPX.FlyingZ B (X.env :: X.outer) a (Zc cls d) t.heap
  na : H a = none
  os : t.os = sI.os
  ag : AllBare t.gens
section
variable {X : Cx} {pins : List (Addr × Obj)} {a : Addr} {cls : Value} {d : Option Addr} {σ : L2.St} {H : Hp} {B : Heap} {sI t : Shared} {Wout : WX} {D : Ends} {hds : List ExceptHandler} {l : List ClU}
theorem Caught.land (q : Caught X pins a cls d σ H B sI t) : Inv X pins σ H t := q.J.landed q.nb q.fl.1 q.up q.os q.ag
/-- the state of a suite -/
theorem Caught.suite (q : Caught X pins a cls d σ H B sI t) : ∃ oe, Zc cls d oe ∧ (∃ vs, oe.data = .fields vs) ∧ t.heap.get? a = some oe ∧ Inv (X.suite a ((a, oe) :: (X.pn ++ pins))) [] σ H t := by
  obtain ⟨oe, vs, he, hz, hd⟩ := q.fl.there
  have off : a ∉ frs (X.env :: X.outer) := fun hm => by
    obtain ⟨_, o', e', hnf⟩ := q.fl.2.2.1.mem hm
    rw [he] at e'; cases e'
    exact hnf _ hd
  have n1 : a ≠ X.env.locals := fun z => off (List.mem_filterMap.mpr ⟨X.env, .head _, by rw [q.fr, z]⟩)
  have n2 : a ∉ X.fs := fun hm => by
    obtain ⟨e, he', z⟩ := List.mem_filterMap.mp hm
    exact off (List.mem_filterMap.mpr ⟨e, .tail _ he', z⟩)
  exact ⟨oe, hz, ⟨_, hd⟩, he, q.land.suite he hd q.na n1 n2⟩
theorem suite_end {i : Nat} {n : Str} {p' : Pos} {oe : Obj} {σ6 : L2.St} {H6 : Hp} {s6 : Shared} {Q : Unit → Shared → Prop} (ok : X.Ok) (hN : X.N.Nodup) (hi : X.N[i]? = some n) (hln : X.env.kindOf n = some .local) (S6 : Inv (X.suite a ((a, oe) :: (X.pn ++ pins))) [] σ6 H6 s6)
    (hq : ∀ s7, Inv X pins (σ6.set i none) H6 s7 → Q () s7) : wpAny (model X.prog X.w) X.A (do bindName X.env n .none; unbindBehindTheSuite X.env n p') Q X.xe s6 := gone_ok (S6.unsuite ok) hN hi hln hq
/-- the clauses, one behind another -/
theorem clauses_run (ok : X.Ok) (hN : X.N.Nodup) (tk : Takes X Wout) (q : Caught X pins a cls d σ H B sI t) (k : HsU X hds l) : wClU X.K Wout D l cls d σ H → wpAny (model X.prog X.w) X.A (handleBy (.ref a) X.env hds) (SP X pins D) X.xe t := by
  obtain ⟨oe, hz, hd, he, S⟩ := q.suite
  have LT : PySem.W.Looks (model X.prog X.w) t.heap (typeOf (.ref a)) cls := fun A Q E s k q' => wpAny_typeOf_ref (k _ _ he) (by rw [hz.1]; exact q')
  induction k with
  | nil =>
    intro w
    refine wpAny_handleBy_nil ?_
    obtain ⟨k1, k2, k3, oe', vs, T, oT, ts', he', hz', hd', h1, hr⟩ := id q.fl
    unfold PySem.passOn
    refine wpAny_bind (wpAny_field he' hd' h1 ?_)
    rw [if_neg (show ¬ ((Value.ref T == Value.none) = true) from by simp)]
    have fin : wpAny (model X.prog X.w) X.A (setFlight (.ref a) X.env.frame) (fun _ s4 => wpAny (model X.prog X.w) X.A (throw (.ref a) : Sem Flow) (SP X pins D) X.xe s4) X.xe t := by
      rw [q.fr]
      exact HandSPX.setFlight_upZ q.fl fun h4 hh4 up4 => wpAny_throw (tk _ _ ⟨a, B, sI, pins, σ, H, cls, d, rfl, q.J, q.nb, q.up.trans up4, .inr (.inr (by rw [q.st]; exact hh4)), q.na, q.os, q.ag, w⟩)
    first
      | exact wpAny_bind (wpAny_pure (wpAny_bind fin))
      | exact wpAny_bind fin
  | @cons x nm c j ts b₀ suite np p' hds2 l2 hc hj hsu r ih =>
    rintro ⟨b, hb1, hyes, hno⟩
    refine wpAny_handleBy_cons (codeAny_handlers_test ?_) (by intro z; cases z)
    have look : ∀ {Q : Value → Shared → Prop} {E : Value → Shared → Prop}, Q c t → wpAny (model X.prog X.w) (X.A.mark (some (.ref a))) (eval (.Name x np) X.env) Q E t := fun {Q E} z => by
      obtain ⟨hg, hdbg, hm | ⟨hm, hv, hnn⟩⟩ := hc
      · exact ld_glob (X := X.suite a ((a, oe) :: (X.pn ++ pins))) S hg hm z hdbg
      · exact ld_blt (X := X.suite a ((a, oe) :: (X.pn ++ pins))) S hg hm hv z hnn hdbg
    refine look ((PySem.W.exm_one (M := model X.prog X.w) q.land.kIn LT hb1).here ?_)
    cases b with
    | false => exact ih (hno rfl)
    | true =>
      -- the suite, at a heap in which the flight is over
      have go : ∀ h4, HandSPX.FlyingZ B (X.env :: X.outer) a (Zc cls d) h4 → t.heap.UpToSlots h4 → Caught X pins a cls d σ H B sI { t with heap := h4 } := fun h4 f4 u4 => ⟨q.st, q.fr, q.J, q.nb, q.up.trans u4, f4, q.na, q.os, q.ag⟩
      cases nm with
      | none =>
        cases j with
        | some i => exact hj.elim
        | none =>
          refine codeAny_handlers_suite (HandSPX.lands_againZ q.fl fun h4 f4 u4 => ?_)
          obtain ⟨oe4, hz4, hd4, he4, S4⟩ := (go h4 f4 u4).suite
          refine wpAny_mono ((hsu a oe4 cls d (X.pn ++ pins) hz4 hd4).run [] _ _ H _ S4 (hyes rfl a q.na)) (fun f s6 hsp => ?_) (fun _ _ z => z.elim)
          cases f with
          | next => obtain ⟨_, _, S6, q6⟩ := hsp; exact ⟨_, _, S6.unsuite ok, q6⟩
          | brk => obtain ⟨_, _, S6, q6⟩ := hsp; exact ⟨_, _, S6.unsuite ok, q6⟩
          | cont => obtain ⟨_, _, S6, q6⟩ := hsp; exact ⟨_, _, S6.unsuite ok, q6⟩
          | ret u => obtain ⟨_, _, _, S6, r6, q6⟩ := hsp; exact ⟨_, _, _, S6.unsuite ok, r6, q6⟩
      | some n =>
        cases j with
        | none => exact hj.elim
        | some i =>
          obtain ⟨hi, hln⟩ := hj
          refine codeAny_handlers_suite_as (HandSPX.lands_againZ q.fl fun h4 f4 u4 => ?_)
          obtain ⟨oe4, hz4, hd4, he4, S4⟩ := (go h4 f4 u4).suite
          refine store_ok (X := X.suite a ((a, oe4) :: (X.pn ++ pins))) (v := .ref a) S4 hN hi (.inl hln) rfl (fun s5 S5 => ?_) (.inr hln)
          refine wpAny_mono ((hsu a oe4 cls d (X.pn ++ pins) hz4 hd4).run [] s5 _ H _ S5 (hyes rfl a q.na)) (fun f s6 hsp => ?_) (fun _ _ z => z.elim)
          cases f with
          | next => obtain ⟨_, _, S6, q6⟩ := hsp; exact suite_end ok hN hi hln S6 fun s7 J7 => ⟨_, _, J7, q6⟩
          | brk => obtain ⟨_, _, S6, q6⟩ := hsp; exact suite_end ok hN hi hln S6 fun s7 J7 => ⟨_, _, J7, q6⟩
          | cont => obtain ⟨_, _, S6, q6⟩ := hsp; exact suite_end ok hN hi hln S6 fun s7 J7 => ⟨_, _, J7, q6⟩
          | ret u => obtain ⟨_, _, _, S6, r6, q6⟩ := hsp; exact suite_end ok hN hi hln S6 fun s7 J7 => ⟨_, _, _, J7, r6, q6⟩
theorem ps_tryU {body : List Stmt} {h₀ : ExceptHandler} {pos : Pos} {tb : WX → TS} (hs : X.stack = X.env :: X.outer) (hf : X.env.frame = some X.env.locals) (hN : X.N.Nodup) (tk : Takes X Wout)
    (hb : ∀ (W : WX) (pn : List (Addr × Obj)) (xe : Value → Shared → Prop), Takes (X.tr pn xe) W → PassesOwn (model X.prog X.w) X.A X.env xe → PSs (X.tr pn xe) body (tb W)) (hh : HsU X (h₀ :: hds) l) :
    PS X (.Try body (h₀ :: hds) [] [] pos) (fun D σ H => tb (wClU X.K Wout D l) D σ H) := by
  refine ⟨fun pins s σ H D I h => wpAny_Try_except ?_⟩
  have ok := I.ok
  have run := (hb (wClU X.K Wout D l) (X.pn ++ pins) (fun e s₁ => wpAny (model X.prog X.w) X.A (noteFrame e X.env) (fun _ s₂ => wpAny (model X.prog X.w) X.A (setFlight e none) (fun _ s₃ => wpAny (model X.prog X.w) X.A (handleBy e X.env (h₀ :: hds)) (SP X pins D) X.xe s₃) X.xe s₂) X.xe s₁) (fun u s' xx => ?_) PassesOwn.looking).run [] s σ H D (I.toTry _) h
  · refine wpAny_mono run (fun f s1 hsp => ?_) (fun e s1 he => he)
    cases f with
    | next => obtain ⟨σ', H', J', q⟩ := hsp; exact wpAny_execs_nil ⟨σ', H', J'.ofTry ok, q⟩
    | brk => obtain ⟨σ', H', J', q⟩ := hsp; exact ⟨σ', H', J'.ofTry ok, q⟩
    | cont => obtain ⟨σ', H', J', q⟩ := hsp; exact ⟨σ', H', J'.ofTry ok, q⟩
    | ret u => obtain ⟨v, σ', H', J', r, q⟩ := hsp; exact ⟨v, σ', H', J'.ofTry ok, r, q⟩
  · obtain ⟨a, B, sI, pins', σ', H', cls, d, rfl, J', nb, up, sky, na, os, ag, w⟩ := xx
    have J : Inv X pins σ' H' sI := J'.ofTry ok
    have hfr : X.A.frames = some (X.env :: X.outer) := by rw [ok.frames, hs]
    have sky' : Sky B (X.env :: X.outer) a (Zc cls d) X.env.locals s'.heap := by rw [← hs]; exact sky
    show wpAny (model X.prog X.w) X.A (noteFrame (.ref a) X.env) _ _ _
    exact Sky.land Zc.steady hfr hf sky' fun h3 fl3 up3 => clauses_run ok hN tk (t := { s' with heap := h3 }) ⟨hs, hf, J, nb, up.trans up3, fl3, na, os, ag⟩ hh w
end
end U
end part_U19

section part_U20
set_option Elab.async false
set_option linter.all false
set_option maxRecDepth 100000
set_option maxHeartbeats 1000000
/-! U20: try by values; the caught error's fields. -/
namespace U
open PySem PyProof.Rows L2
/-- a clause: the classes it takes, its name's slot, its suite -/
structure Cl where
  m : Nat → Option Bool
  j : Option Nat
  f : D → SV
def noX (ρ : Ro) : Bool := ρ.all fun s => match s with
  | some .exc => false
  | _ => true
def enterX (i : Nat) (ρ : Ro) : Option Ro := if noX ρ = true then match ρ[i]? with
    | some none => some (ρ.set i (some .exc))
    | some (some (.val false _)) => some (ρ.set i (some .exc))
    | _ => none
  else none
def leaveR (i : Nat) (ρ : Ro) : Option Ro := match ρ[i]? with
  | some (some .exc) => if noX (ρ.set i none) = true then some (ρ.set i none) else none
  | _ => none
def isBo (i : Nat) : Rv → Bool
  | .bo j => j == i
  | _ => false
def leaveX (i : Nat) : SR → SR
  | .nx ρ => match leaveR i ρ with | some ρ1 => .nx ρ1 | none => .no
  | .bk ρ => match leaveR i ρ with | some ρ1 => .bk ρ1 | none => .no
  | .ct ρ => match leaveR i ρ with | some ρ1 => .ct ρ1 | none => .no
  | .rt r ρ => if isBo i r = true then .no else match leaveR i ρ with | some ρ1 => .rt r ρ1 | none => .no
  | _ => .no
def noEx : SR → SR
  | .ex _ _ => .no
  | x => x
def catchV (e : D) : List Cl → Ro → SR
  | [], ρ => .ex e ρ
  | c :: r, ρ => match e with
    | .obj k _ _ => match c.m k with
      | some true => match c.j with
        | none => noEx (c.f e ρ)
        | some i => match enterX i ρ with
          | some ρ1 => leaveX i (c.f e ρ1)
          | none => .no
      | some false => catchV e r ρ
      | none => .no
    | _ => .no
def sTry (body : SV) (cs : List Cl) : SV := fun ρ => match body ρ with
  | .ex e ρ1 => catchV e cs ρ1
  | x => x
/-- error.f in a suite -/
def eXf (cs : List Nat) (i : Nat) (n : Str) (e : D) : EV := fun ρ => match ρ[i]? with
  | some (some .exc) => match e with
    | .obj k ks ds => if k ∈ cs then match fld n ks ds with
        | some d => .ok (.v d) ρ
        | none => .no
      else .no
    | _ => .no
  | _ => .no
abbrev gX (G : Glob) (a dx : Addr) (e : D) : Glob := { g0 := G.g0, xa := a, xd := dx, xe := e }
section
variable {G : Glob} {X : Cx} {W : WX} {K : PySem.W.Frag} {σ σ1 σ2 σ' τ : L2.St} {F H H0 F1 H1 F' H' : Hp} {ρ ρ0 ρ1 ρ2 ρ' ρa : Ro} {a dx : Addr} {e : D} {i : Nat}
theorem noX_at {j : Nat} (h : noX ρ = true) : ρ[j]? ≠ some (some .exc) := fun z => by
  have := List.all_eq_true.mp h _ (List.mem_of_getElem? z)
  cases this
theorem enterX_some (h : enterX i ρ1 = some ρ2) : noX ρ1 = true ∧ ρ2 = ρ1.set i (some .exc) ∧ i < ρ1.length ∧ (∀ p d, ρ1[i]? ≠ some (some (.own p d))) ∧ ∀ p d, ρ1[i]? ≠ some (some (.lent p d)) := by
  unfold enterX at h
  by_cases hn : noX ρ1 = true
  · rw [if_pos hn] at h
    split at h
    · rename_i e
      cases h
      exact ⟨hn, rfl, (List.getElem?_eq_some_iff.mp e).1, (fun p d z => by rw [e] at z; cases z), fun p d z => by rw [e] at z; cases z⟩
    · rename_i e
      cases h
      exact ⟨hn, rfl, (List.getElem?_eq_some_iff.mp e).1, (fun p d z => by rw [e] at z; cases z), fun p d z => by rw [e] at z; cases z⟩
    · cases h
  · rw [if_neg hn] at h; cases h
/-- the suite's slots -/
theorem sl_enter (l : SlOk G K F1 H1 σ1 ρ1) (h : enterX i ρ1 = some ρ2) (hx : ExF (gX G a dx e) K F1) : SlOk (gX G a dx e) K F1 H1 (σ1.set i (some (.ref a))) ρ2 := by
  obtain ⟨hn, rfl, hi, ho, hL⟩ := enterX_some h
  have hiσ : i < σ1.length := by rw [l.len]; exact hi
  have bo : ∀ b, Bo (σ1.set i (some (.ref a))) (ρ1.set i (some .exc)) b → Bo σ1 ρ1 b := fun b ⟨j, q, c, h1, h2⟩ => by
    rcases set_get h1 with ⟨_, z⟩ | ⟨hj, h1⟩
    · cases z
    · rw [List.getElem?_set_ne (Ne.symm hj)] at h2
      exact ⟨j, q, c, h1, h2⟩
  refine ⟨by simp [l.len], fun j p d h => ?_, fun j p d h => ?_, fun j p d h => ?_, fun j k p q d c b h h' h1 h2 => ?_, fun j h => ?_⟩
  · rcases set_get h with ⟨_, z⟩ | ⟨hj, h⟩
    · cases z
    · rw [List.getElem?_set_ne (Ne.symm hj)]; exact l.val j p d h
  · rcases set_get h with ⟨_, z⟩ | ⟨hj, h⟩
    · cases z
    · rw [List.getElem?_set_ne (Ne.symm hj)]; exact l.own j p d h
  · rcases set_get h with ⟨_, z⟩ | ⟨hj, h⟩
    · cases z
    · rw [List.getElem?_set_ne (Ne.symm hj)]
      obtain ⟨b, q1, q2, q3, q4⟩ := l.lent j p d h
      exact ⟨b, q1, q2, q3, fun z => q4 (bo b z)⟩
  · rcases set_get h with ⟨_, z⟩ | ⟨hj, h⟩
    · cases z
    · rcases set_get h' with ⟨_, z⟩ | ⟨hk, h'⟩
      · cases z
      · rw [List.getElem?_set_ne (Ne.symm hj)] at h1
        rw [List.getElem?_set_ne (Ne.symm hk)] at h2
        exact l.one j k p q d c b h h' h1 h2
  · rcases set_get h with ⟨rfl, _⟩ | ⟨_, h⟩
    · exact ⟨List.getElem?_set_self hiσ, hx⟩
    · exact absurd h (noX_at hn)
theorem leaveR_some (h : leaveR i ρ' = some ρ2) : ρ'[i]? = some (some .exc) ∧ ρ2 = ρ'.set i none ∧ noX (ρ'.set i none) = true := by
  unfold leaveR at h
  split at h
  · rename_i e
    by_cases hn : noX (ρ'.set i none) = true
    · rw [if_pos hn] at h; cases h; exact ⟨e, rfl, hn⟩
    · rw [if_neg hn] at h; cases h
  · cases h
/-- behind the suite -/
theorem go_leave (l : SlOk G K F1 H1 σ1 ρ1) (h : enterX i ρ1 = some ρ2) (g : Go (gX G a dx e) K (σ1.set i (some (.ref a))) F1 H1 ρ2 σ' F' H' ρ') (h2 : leaveR i ρ' = some ρa) (ht : τ.length = σ'.length) (hτ : ∀ k, k ≠ i → τ[k]? = σ'[k]?) : Go G K σ1 F1 H1 ρ1 τ F' H' ρa := by
  obtain ⟨hn, rfl, hi, ho, hL⟩ := enterX_some h
  obtain ⟨hX, rfl, hn2⟩ := leaveR_some h2
  have bo1 : ∀ b, Bo (σ1.set i (some (.ref a))) (ρ1.set i (some .exc)) b → Bo σ1 ρ1 b := fun b ⟨j, q, c, h1, h2⟩ => by
    rcases set_get h1 with ⟨_, z⟩ | ⟨hj, h1⟩
    · cases z
    · rw [List.getElem?_set_ne (Ne.symm hj)] at h2
      exact ⟨j, q, c, h1, h2⟩
  have bo2 : ∀ b, Bo τ (ρ'.set i none) b → Bo σ' ρ' b := fun b ⟨j, q, c, h1, h2⟩ => by
    rcases set_get h1 with ⟨_, z⟩ | ⟨hj, h1⟩
    · cases z
    · rw [hτ j hj] at h2
      exact ⟨j, q, c, h1, h2⟩
  have at1 : ∀ {j : Nat} {s : Sl}, (ρ'.set i none)[j]? = some (some s) → j ≠ i ∧ ρ'[j]? = some (some s) := fun h => by
    rcases set_get h with ⟨_, z⟩ | ⟨hj, h⟩
    · cases z
    · exact ⟨hj, h⟩
  have at2 : ∀ {j : Nat} {s : Sl}, j ≠ i → (ρ1.set i (some .exc))[j]? = some (some s) → ρ1[j]? = some (some s) := fun hj h => by
    rw [List.getElem?_set_ne (Ne.symm hj)] at h; exact h
  have at3 : ∀ {j : Nat}, j ≠ i → (σ1.set i (some (V.ref a)))[j]? = σ1[j]? := fun hj => List.getElem?_set_ne (Ne.symm hj)
  refine ⟨g.sub, g.ff, fun b o hb h => g.keep b o (fun z => hb (bo1 b z)) h, g.there, fun b h => (g.new b h).imp id (.imp id (bo1 b)), ⟨by rw [ht, List.length_set]; exact g.sl.len, fun j p d h => ?_, fun j p d h => ?_, fun j p d h => ?_, fun j k p q d c b h h' h1 h2 => ?_, fun j h => absurd h (noX_at hn2)⟩, fun b h => (g.own b (bo2 b h)).imp (bo1 b) id, fun j d h => ?_, fun j d h => ?_, fun j p d => ?_, fun j p d h => ?_⟩
  · obtain ⟨hj, h⟩ := at1 h
    rw [hτ j hj]; exact g.sl.val j p d h
  · obtain ⟨hj, h⟩ := at1 h
    rw [hτ j hj]; exact g.sl.own j p d h
  · obtain ⟨hj, h⟩ := at1 h
    rw [hτ j hj]
    obtain ⟨b, q1, q2, q3, q4⟩ := g.sl.lent j p d h
    exact ⟨b, q1, q2, q3, fun z => q4 (bo2 b z)⟩
  · obtain ⟨hj, h⟩ := at1 h
    obtain ⟨hk, h'⟩ := at1 h'
    rw [hτ j hj] at h1
    rw [hτ k hk] at h2
    exact g.sl.one j k p q d c b h h' h1 h2
  · obtain ⟨hj, h⟩ := at1 h
    obtain ⟨h1, w, h2⟩ := g.pinO j d h
    rw [at3 hj] at h1
    exact ⟨(hτ j hj).trans h1, w, at2 hj h2⟩
  · obtain ⟨hj, h⟩ := at1 h
    obtain ⟨h1, w, h2⟩ := g.pinV j d h
    rw [at3 hj] at h1
    exact ⟨(hτ j hj).trans h1, w, h2.imp (at2 hj) (at2 hj)⟩
  · constructor
    · intro h
      obtain ⟨hj, h⟩ := at1 h
      exact at2 hj ((g.pinL j p d).mp h)
    · intro h
      have hj : j ≠ i := fun z => hL p d (by rw [← z]; exact h)
      rw [List.getElem?_set_ne (Ne.symm hj)]
      exact (g.pinL j p d).mpr (by rw [List.getElem?_set_ne (Ne.symm hj)]; exact h)
  · have hj : j ≠ i := fun z => hL p d (by rw [← z]; exact h)
    rw [hτ j hj, g.sigL j p d (by rw [List.getElem?_set_ne (Ne.symm hj)]; exact h), at3 hj]
theorem res_leave {r : Rv} {v : V} (h2 : leaveR i ρ' = some ρa) (hτ : ∀ k, k ≠ i → τ[k]? = σ'[k]?) (hb : isBo i r = false) (p : RepR (gX G a dx e) K H1 F' H' σ' ρ' r v) : RepR G K H1 F' H' τ ρa r v := by
  obtain ⟨hX, rfl, hn2⟩ := leaveR_some h2
  cases r with
  | v d => exact p
  | bo k =>
    have hk : k ≠ i := by simpa [isBo] using hb
    exact (hτ k hk).trans p
  | fr d =>
    obtain ⟨b, h1, h2, h3, h4, h5⟩ := p
    refine ⟨b, h1, h2, h3, fun ⟨j, q, c, z1, z2⟩ => ?_, h5⟩
    rcases set_get z1 with ⟨_, z⟩ | ⟨hj, z1⟩
    · cases z
    · rw [hτ j hj] at z2
      exact h4 ⟨j, q, c, z1, z2⟩
end
/-- the clauses by values -/
inductive HsS (G : Glob) (X : Cx) : List ExceptHandler → List Cl → Prop
  | nil : HsS G X [] []
  | cons {x : Str} {nm : Option Str} {cv : Value} {c : Cl} {b₀ : Stmt} {suite : List Stmt} {np p' : Pos} {hds : List ExceptHandler} {cs : List Cl} (hc : Names X x cv)
      (hj : match nm, c.j with
        | none, none => True
        | some n, some i => X.N[i]? = some n ∧ X.env.kindOf n = some .local
        | _, _ => False)
      (hm : ∀ k b, c.m k = some b → PySem.W.exmOne X.K (.ref (G.ca k)) cv = some b)
      (hsu : ∀ (a : Addr) (oe : Obj) (dx : Addr) (pn : List (Addr × Obj)) (k : Nat) (ks : List Str) (ds : List D), c.m k = some true → Zc (.ref (G.ca k)) (some dx) oe → (∃ vs, oe.data = .fields vs) →
        SimB (match c.j with | none => G | some _ => gX G a dx (.obj k ks ds)) (X.suite a ((a, oe) :: pn)) W0 (b₀ :: suite) (c.f (.obj k ks ds))) (r : HsS G X hds cs) :
      HsS G X (.ExceptHandler (some (.Name x np)) nm (b₀ :: suite) p' :: hds) (c :: cs)
section
variable {G : Glob} {X : Cx} {Wout : WX} {σ σ1 : L2.St} {F H F1 H1 : Hp} {ρ ρ1 : Ro} {hds : List ExceptHandler} {cs : List Cl} {Dn : Ends}
theorem clauses_of (h : HsS G X hds cs) : ∃ l, HsU X hds l ∧ ∀ {σ σ1 : L2.St} {F H F1 H1 : Hp} {ρ ρ1 : Ro} {Dn : Ends} {e : D} {cls : Value} {dx : Addr}, Go G X.K σ F H ρ σ1 F1 H1 ρ1 → ExAt G X.K F1 cls dx e → OutS G X.K Wout σ F H ρ (catchV e cs ρ1) Dn → wClU X.K Wout Dn l cls (some dx) σ1 H1 := by
  induction h with
  | nil => exact ⟨[], .nil, fun {σ σ1 F H F1 H1 ρ ρ1 Dn e cls dx} g x o => o cls dx σ1 F1 H1 g x⟩
  | @cons x nm cv c b₀ suite np p' hds cs hc hj hm hsu r ih =>
    obtain ⟨l, k1, k2⟩ := ih
    refine ⟨(cv, c.j, fun a cls d => fun Dn σ H => ∃ dx k ks ds, d = some dx ∧ cls = .ref (G.ca k) ∧ c.m k = some true ∧ RdS (match c.j with | none => G | some _ => gX G a dx (.obj k ks ds)) X.K W0 (c.f (.obj k ks ds)) Dn σ H) :: l, .cons hc hj (fun a oe cls d pn hz hf => ⟨fun pins s σ H D I h => ?_⟩) k1, ?_⟩
    · obtain ⟨dx, k, ks, ds, rfl, rfl, hk, h⟩ := h
      exact (hsu a oe dx pn k ks ds hk hz hf).run pins s σ H D I h
    · intro σ σ1 F H F1 H1 ρ ρ1 Dn e cls dx g x o
      obtain ⟨k, ks, ds, fs, rfl, rfl, x1, x2, x3⟩ := id x
      simp only [catchV] at o
      cases e1 : c.m k with
      | none => simp only [e1] at o; exact o.elim
      | some b =>
        refine ⟨b, hm k b e1, fun hb a ha => ?_, fun hb => ?_⟩
        · subst hb
          simp only [e1] at o
          cases e2 : c.j with
          | none =>
            simp only [e2] at o ⊢
            refine ⟨dx, k, ks, ds, rfl, rfl, e1, ρ1, F1, g.sub, g.sl, ?_⟩
            cases e3 : c.f (.obj k ks ds) ρ1 with
            | no => simp only [e3, noEx] at o; exact o
            | ex e' ρ' => simp only [e3, noEx] at o; exact o.elim
            | nx ρ' => simp only [e3, noEx] at o; exact fun σ' F' H' g' => o _ _ _ (g.trans g')
            | bk ρ' => simp only [e3, noEx] at o; exact fun σ' F' H' g' => o _ _ _ (g.trans g')
            | ct ρ' => simp only [e3, noEx] at o; exact fun σ' F' H' g' => o _ _ _ (g.trans g')
            | rt r ρ' => simp only [e3, noEx] at o; exact fun v σ' F' H' g' p => o _ _ _ _ (g.trans g') (p.older g.there)
          | some i =>
            simp only [e2] at o ⊢
            cases e4 : enterX i ρ1 with
            | none => simp only [e4] at o; exact o.elim
            | some ρ2 =>
              simp only [e4] at o
              have hx : ExF (gX G a dx (.obj k ks ds)) X.K F1 := ⟨k, ks, ds, fs, rfl, x1, x2, x3⟩
              refine ⟨dx, k, ks, ds, rfl, rfl, e1, ρ2, F1, g.sub, sl_enter g.sl e4 hx, ?_⟩
              have same : ∀ (σ' : L2.St) (k : Nat), k ≠ i → (σ'.set i none)[k]? = σ'[k]? := fun σ' k hk => List.getElem?_set_ne (Ne.symm hk)
              cases e3 : c.f (.obj k ks ds) ρ2 with
              | no => simp only [e3, leaveX] at o; exact o
              | ex e' ρ' => simp only [e3, leaveX] at o; exact o.elim
              | nx ρ' =>
                simp only [e3, leaveX] at o
                cases e5 : leaveR i ρ' with
                | none => simp only [e5] at o; exact o.elim
                | some ρa => simp only [e5] at o; exact fun σ' F' H' g' => o _ _ _ (g.trans (go_leave g.sl e4 g' e5 (by simp) (same σ')))
              | bk ρ' =>
                simp only [e3, leaveX] at o
                cases e5 : leaveR i ρ' with
                | none => simp only [e5] at o; exact o.elim
                | some ρa => simp only [e5] at o; exact fun σ' F' H' g' => o _ _ _ (g.trans (go_leave g.sl e4 g' e5 (by simp) (same σ')))
              | ct ρ' =>
                simp only [e3, leaveX] at o
                cases e5 : leaveR i ρ' with
                | none => simp only [e5] at o; exact o.elim
                | some ρa => simp only [e5] at o; exact fun σ' F' H' g' => o _ _ _ (g.trans (go_leave g.sl e4 g' e5 (by simp) (same σ')))
              | rt r ρ' =>
                simp only [e3, leaveX] at o
                by_cases hb : isBo i r = true
                · rw [if_pos hb] at o; exact o.elim
                · rw [if_neg hb] at o
                  cases e5 : leaveR i ρ' with
                  | none => simp only [e5] at o; exact o.elim
                  | some ρa => simp only [e5] at o; exact fun v σ' F' H' g' p => o _ _ _ _ (g.trans (go_leave g.sl e4 g' e5 (by simp) (same σ'))) ((res_leave e5 (same σ') (by simpa using hb) p).older g.there)
        · subst hb
          simp only [e1] at o
          exact k2 g x o
theorem ss_try {body : List Stmt} {h₀ : ExceptHandler} {pos : Pos} {fb : SV} (hs : X.stack = X.env :: X.outer) (hf : X.env.frame = some X.env.locals) (hN : X.N.Nodup) (tk : Takes X Wout)
    (hb : ∀ (W : WX) (pn : List (Addr × Obj)) (xe : Value → Shared → Prop), Takes (X.tr pn xe) W → PassesOwn (model X.prog X.w) X.A X.env xe → SimB G (X.tr pn xe) W body fb) (hh : HsS G X (h₀ :: hds) cs) :
    SimS G X Wout (.Try body (h₀ :: hds) [] [] pos) (sTry fb cs) := by
  obtain ⟨l, k1, k2⟩ := clauses_of (Wout := Wout) hh
  refine PS.of (ps_tryU (tb := fun W => RdS G X.K W fb) hs hf hN tk (fun W pn xe t p => hb W pn xe t p) k1) fun Dn σ H h => ?_
  obtain ⟨ρ, F, s, l', o⟩ := h
  refine ⟨ρ, F, s, l', ?_⟩
  unfold sTry at o
  cases e : fb ρ with
  | no => simp only [e] at o; exact o
  | nx ρ' => simp only [e] at o; exact o
  | bk ρ' => simp only [e] at o; exact o
  | ct ρ' => simp only [e] at o; exact o
  | rt r ρ' => simp only [e] at o; exact o
  | ex e' ρ' =>
    simp only [e] at o
    exact fun cls dx σ' F' H' g x => k2 g x o
end
/-- error.f -/
theorem se_xf {G : Glob} {X : Cx} {W : WX} {a dx : Addr} {oe : Obj} {pn : List (Addr × Obj)} {k i : Nat} {ks : List Str} {ds : List D} {cs : List Nat} {n x : Str} {p pos : Pos} (hz : Zc (.ref (G.ca k)) (some dx) oe) (hf : ∃ vs, oe.data = .fields vs) (hc : ∀ c ∈ cs, XfC X.K (G.ca c) ∧ PySem.W.findIn X.K (.ref (G.ca c)) n = some none) (hv : PE (X.suite a ((a, oe) :: pn)) (.Name x p) (tVar i))
    (hb : attributeBase (.Name x p) n X.env (eval (.Name x p) X.env) = eval (.Name x p) X.env := by rfl) : SimE (gX G a dx (.obj k ks ds)) (X.suite a ((a, oe) :: pn)) W (.Attribute (.Name x p) n pos) (eXf cs i n (.obj k ks ds)) := by
  refine ⟨fun pins s σ H Q I h => ?_⟩
  obtain ⟨ρ, F, sF, l, o⟩ := h
  unfold eXf at o
  split at o
  case h_2 => exact o.elim
  rename_i hx
  simp only at o
  by_cases hk : k ∈ cs
  case neg => rw [if_neg hk] at o; exact o.elim
  rw [if_pos hk] at o
  cases e : fld n ks ds with
  | none => simp only [e] at o; exact o.elim
  | some d =>
    simp only [e] at o
    obtain ⟨h1, c, ks', ds', fs, h2, h3, h4, h5⟩ := l.exc i hx
    cases h2
    obtain ⟨v, q1, q2⟩ := fld_rep h4 h5 e
    refine (pe_xf (X := X) (cls := .ref (G.ca k)) (d := some dx) (hc k hk).1 (hc k hk).2 hz hf hv hb).run pins s σ H Q I ⟨.ref a, h1, rfl, rfl, dx, fs, v, rfl, sF _ _ h3, q1, ?_⟩
    exact o.done (Go.refl sF l) q2
end U
end part_U20

section part_U21
set_option Elab.async false
set_option linter.all false
set_option maxRecDepth 100000
set_option maxHeartbeats 1000000
/-! U21: built-ins: repr, len, int, abs, list, tuple, sorted, isinstance. -/
namespace U
open PySem PyProof.Rows L2
/-! ### repr -/
mutual
/-- may be shown; no more signs than rsz -/
def okR : D → Bool
  | .non => true
  | .bl _ => true
  | .int i => decide (i.natAbs.log2 < 1920)
  | .str x => x.cps.toList.all fun c => decide (c < 16 ^ 8)
  | .tup xs => okRL xs
  | .lst xs => okRL xs
  | _ => false
def okRL : List D → Bool
  | [] => true
  | x :: xs => okR x && okRL xs
end
mutual
def rsz : D → Nat
  | .str x => 10 * x.length + 2
  | .tup xs => rszL xs + 3
  | .lst xs => rszL xs + 3
  | _ => 1930
def rszL : List D → Nat
  | [] => 0
  | x :: xs => rsz x + 2 + rszL xs
end
mutual
def dpt : D → Nat
  | .tup xs => dptL xs + 1
  | .lst xs => dptL xs + 1
  | _ => 0
def dptL : List D → Nat
  | [] => 0
  | x :: xs => max (dpt x) (dptL xs)
end
theorem textFrom_le : ∀ (ts : List Str) (k : Nat) (acc : Str), (textFrom k acc ts).length ≤ acc.length + piled ts
  | [], k, acc => by show acc.length ≤ acc.length + 0; omega
  | t :: ts, k, acc => by
    have ih := textFrom_le ts (k + 1) (acc ++ (if k > 0 then ", " else "" : String) ++ t)
    have e : (acc ++ (if k > 0 then ", " else "" : String) ++ t).length ≤ acc.length + 2 + t.length := by
      rw [strLen_append, strLen_append]
      split
      · show acc.length + 2 + t.length ≤ _; omega
      · show acc.length + 0 + t.length ≤ _; omega
    rw [piled_cons]
    show (textFrom (k + 1) _ ts).length ≤ _
    omega
theorem listText_le (ts : List Str) : (listText ts).length ≤ piled ts + 2 := by
  unfold listText
  rw [strLen_append]
  have := textFrom_le ts 0 "["
  have e1 : ((("[" : String) : Str)).length = 1 := rfl
  have e2 : ((("]" : String) : Str)).length = 1 := rfl
  omega
theorem tupleText_le (ts : List Str) : (tupleText ts).length ≤ piled ts + 3 := by
  unfold tupleText
  rw [strLen_append, strLen_append]
  have e1 : ((("(" : String) : Str)).length = 1 := rfl
  have e3 : (((if ts.length == 1 then ",)" else ")" : String) : Str)).length ≤ 2 := by split <;> decide
  have e2 : (Str.join ", " ts).length ≤ piled ts := by
    cases ts with
    | nil => decide
    | cons t ts => have := join_length_add (t :: ts) (by simp); omega
  omega
mutual
theorem shown_le : ∀ (d : D) (p : PyData), py d = some p → okR d = true → p.shown.length ≤ rsz d ∧ p.showable = true ∧ p.depth ≤ dpt d ∧ p.hasDict = false
  | .non, p, e, h => by unfold py at e; cases e; exact ⟨by simp only [PyData.shown, rsz]; decide, by simp only [PyData.showable], by simp only [PyData.depth]; exact Nat.zero_le _, by simp only [PyData.hasDict]⟩
  | .bl b, p, e, h => by
    unfold py at e; cases e
    refine ⟨?_, by simp only [PyData.showable], by simp only [PyData.depth]; exact Nat.zero_le _, by simp only [PyData.hasDict]⟩
    simp only [PyData.shown, rsz]
    cases b <;> decide
  | .int i, p, e, h => by
    unfold py at e; cases e
    have h' : i.natAbs.log2 < 1920 := by simpa only [okR, decide_eq_true_eq] using h
    refine ⟨?_, by simp only [PyData.showable]; exact decide_eq_true h', by simp only [PyData.depth]; exact Nat.zero_le _, by simp only [PyData.hasDict]⟩
    simp only [PyData.shown, rsz]
    have := int_text_len_1921 h'
    exact Nat.le_trans this (by decide)
  | .str x, p, e, h => by
    unfold py at e; cases e
    refine ⟨?_, by simp only [PyData.showable], by simp only [PyData.depth]; exact Nat.zero_le _, by simp only [PyData.hasDict]⟩
    simp only [PyData.shown, rsz]
    refine PySem.StrLaws.reprText_len x fun c hc => ?_
    simp only [okR] at h
    exact of_decide_eq_true (List.all_eq_true.mp h c hc)
  | .tup ds, p, e, h => by
    unfold py at e
    cases e1 : pyL ds with
    | none => rw [e1] at e; cases e
    | some l =>
      rw [e1] at e; cases e
      simp only [okR] at h
      obtain ⟨h1, h2, h3, h4⟩ := shownL_le ds l e1 h
      refine ⟨?_, by simp only [PyData.showable]; exact h2, by simp only [PyData.depth, dpt]; omega, by simp only [PyData.hasDict]; exact h4⟩
      simp only [PyData.shown, rsz]
      have := tupleText_le (PyData.shownAll l)
      omega
  | .lst ds, p, e, h => by
    unfold py at e
    cases e1 : pyL ds with
    | none => rw [e1] at e; cases e
    | some l =>
      rw [e1] at e; cases e
      simp only [okR] at h
      obtain ⟨h1, h2, h3, h4⟩ := shownL_le ds l e1 h
      refine ⟨?_, by simp only [PyData.showable]; exact h2, by simp only [PyData.depth, dpt]; omega, by simp only [PyData.hasDict]; exact h4⟩
      simp only [PyData.shown, rsz]
      have := listText_le (PyData.shownAll l)
      omega
  | .ty n, p, e, h => by unfold py at e; cases e
  | .fn n, p, e, h => by unfold py at e; cases e
  | .cl n, p, e, h => by unfold py at e; cases e
  | .scr n, p, e, h => by unfold py at e; cases e
  | .obj c ks ds, p, e, h => by unfold py at e; cases e
  | .dct ks ds, p, e, h => by unfold py at e; cases e
theorem shownL_le : ∀ (ds : List D) (l : List PyData), pyL ds = some l → okRL ds = true → piled (PyData.shownAll l) ≤ rszL ds ∧ PyData.showableAll l = true ∧ PyData.depthAll l ≤ dptL ds ∧ PyData.hasDictAll l = false
  | [], l, e, h => by unfold pyL at e; cases e; exact ⟨by simp only [PyData.shownAll]; exact Nat.zero_le _, by simp only [PyData.showableAll], by simp only [PyData.depthAll]; exact Nat.zero_le _, by simp only [PyData.hasDictAll]⟩
  | d :: ds, l, e, h => by
    unfold pyL at e
    cases e1 : py d with
    | none => rw [e1] at e; cases e
    | some p =>
      cases e2 : pyL ds with
      | none => rw [e1, e2] at e; cases e
      | some l' =>
        rw [e1, e2] at e; cases e
        simp only [okRL, Bool.and_eq_true] at h
        obtain ⟨a1, a2, a3, a4⟩ := shown_le d p e1 h.1
        obtain ⟨b1, b2, b3, b4⟩ := shownL_le ds l' e2 h.2
        refine ⟨by simp only [PyData.shownAll, rszL]; rw [piled_cons]; omega, by simp only [PyData.showableAll, a2, b2, Bool.and_self], ?_, by simp only [PyData.hasDictAll, a4, b4, Bool.or_self]⟩
        simp only [PyData.depthAll, dptL]
        omega
end
def gRepr : List D → Option Rv
  | [d] => match py d with
    | some p => if (okR d && decide (rsz d ≤ big) && decide (dpt d ≤ 60)) = true then some (.v (.str p.shown)) else none
    | none => none
  | _ => none
section
variable {G : Glob} {X : Cx} {W : WX} {K : PySem.W.Frag} {F H : Hp}
theorem call_reprD (hg : X.A.guards = some []) (hu : X.A.units + 64 < cLine) : CallR X (.builtin "repr") (fun xs H Q => ∃ x p, xs = [x] ∧ Dp X.K H x p ∧ p.showable = true ∧ p.hasDict = false ∧ p.depth ≤ 60 ∧ p.shown.length ≤ sizeLine ∧ Q (.str p.shown) H) := by
  intro pins s σ H xs us Q I r h
  obtain ⟨x, p, rfl, hd, hs, hn, hp, hz, q⟩ := h
  obtain ⟨u, rfl, rx⟩ := vals1 r
  obtain ⟨as, r1⟩ := Dp.reads I p x u hd rx
  cases hd with
  | non => cases rx; exact PySem.P.repr_of_none ⟨.str _, H, I.tok _, ⟨_, rfl⟩, q⟩
  | bl b =>
    cases rx
    refine PySem.P.repr_of_bool ⟨.str _, H, I.tok _, ⟨_, rfl⟩, ?_⟩
    simp only [PyData.shown] at q
    exact q
  | int i =>
    obtain ⟨t, rfl⟩ := rx
    exact PySem.P.repr_of_int (by simpa only [PyData.showable, decide_eq_true_eq] using hs) ⟨.str _, H, I.tok _, ⟨_, rfl⟩, q⟩
  | str z =>
    obtain ⟨t, rfl⟩ := rx
    exact PySem.P.repr_of_str ⟨.str _, H, I.tok _, ⟨_, rfl⟩, q⟩ hz
  | @lst a xs ds h1 h2 =>
    cases rx
    exact repr_of_reads' r1 hs (PyData.noDict_hsm hn) hg (by omega) (fun _ _ e => e) (fun h' u tk k => ⟨.str _, H, I.kept k, ⟨_, rfl⟩, q⟩) hz
  | @tup a xs ds h1 h2 =>
    cases rx
    exact repr_of_reads' r1 hs (PyData.noDict_hsm hn) hg (by omega) (fun _ _ e => e) (fun h' u tk k => ⟨.str _, H, I.kept k, ⟨_, rfl⟩, q⟩) hz
theorem cv_repr (hg : X.A.guards = some []) (hu : X.A.units + 64 < cLine) : CallOk G X (.builtin "repr") gRepr := ⟨_, call_reprD hg hu, by
  intro F H ds xs r Q s h e q
  unfold gRepr at e
  split at e
  · rename_i d
    obtain ⟨x, rfl, hx⟩ := ats_one h
    cases e1 : py d with
    | none => rw [e1] at e; cases e
    | some p =>
      rw [e1] at e
      simp only at e
      split at e
      · rename_i hc
        cases e
        simp only [Bool.and_eq_true, decide_eq_true_eq] at hc
        obtain ⟨⟨h1, h2⟩, h3⟩ := hc
        obtain ⟨k1, k2, k3, k4⟩ := shown_le d p e1 h1
        exact ⟨x, p, rfl, dp_at s e1 hx, k2, k4, by omega, big_le (Nat.le_trans k1 h2), q _ F H (.refl s) rfl⟩
      · cases e
  · cases e⟩
end
end U
end part_U21

section part_U22
set_option Elab.async false
set_option linter.all false
set_option maxRecDepth 100000
set_option maxHeartbeats 1000000
/-! U22: more built-ins. -/
namespace U
open PySem PyProof.Rows L2
def intsOf : List D → Option (List Int)
  | [] => some []
  | .int i :: r => match intsOf r with
    | some l => some (i :: l)
    | none => none
  | _ => none
def blsOf : List D → Option (List Bool)
  | [] => some []
  | .bl i :: r => match blsOf r with
    | some l => some (i :: l)
    | none => none
  | _ => none
def srt (ns : List Int) : List Int := ns.mergeSort fun a b => decide (a ≤ b)
def gLen : List D → Option Rv
  | [.lst xs] => some (.v (.int xs.length))
  | [.tup xs] => some (.v (.int xs.length))
  | [.str z] => if z.length ≤ big then some (.v (.int z.length)) else none
  | _ => none
def gInt : List D → Option Rv
  | [.int i] => some (.v (.int i))
  | [.bl b] => some (.v (.int (if b then 1 else 0)))
  | _ => none
def gAbs : List D → Option Rv
  | [.int i] => some (.v (.int (if i < 0 then -i else i)))
  | _ => none
def gList : List D → Option Rv
  | [.lst xs] => some (.fr (.lst xs))
  | [.tup xs] => some (.fr (.lst xs))
  | [.scr ns] => some (.fr (.lst (ns.map D.int)))
  | _ => none
def gTuple : List D → Option Rv
  | [.lst xs] => some (.v (.tup xs))
  | [.tup xs] => some (.v (.tup xs))
  | _ => none
def gSorted : List D → Option Rv
  | [.lst xs] => (intsOf xs).map fun ns => .fr (.lst ((srt ns).map D.int))
  | _ => none
def gSum : List D → Option Rv
  | [.lst xs] => (intsOf xs).map fun ns => .v (.int ns.sum)
  | _ => none
def gAny : List D → Option Rv
  | [.lst xs] => (blsOf xs).map fun bs => .v (.bl (bs.any id))
  | _ => none
def gAll : List D → Option Rv
  | [.lst xs] => (blsOf xs).map fun bs => .v (.bl (bs.all id))
  | _ => none
def gMax2 : List D → Option Rv
  | [.int i, .int j] => some (.v (.int (if j > i then j else i)))
  | _ => none
def gMin2 : List D → Option Rv
  | [.int i, .int j] => some (.v (.int (if j < i then j else i)))
  | _ => none
theorem intsOf_some : ∀ {ds : List D} {ns : List Int}, intsOf ds = some ns → ds = ns.map D.int
  | [], ns, h => by cases h; rfl
  | d :: ds, ns, h => by
    cases d <;> simp only [intsOf] at h <;> try (cases h; done)
    cases e : intsOf ds with
    | none => rw [e] at h; cases h
    | some l => rw [e] at h; cases h; rw [intsOf_some e]; rfl
theorem intsOf_map : ∀ (ns : List Int), intsOf (ns.map D.int) = some ns
  | [] => rfl
  | n :: ns => by simp only [List.map_cons, intsOf, intsOf_map ns]
theorem blsOf_some : ∀ {ds : List D} {ns : List Bool}, blsOf ds = some ns → ds = ns.map D.bl
  | [], ns, h => by cases h; rfl
  | d :: ds, ns, h => by
    cases d <;> simp only [blsOf] at h <;> try (cases h; done)
    cases e : blsOf ds with
    | none => rw [e] at h; cases h
    | some l => rw [e] at h; cases h; rw [blsOf_some e]; rfl
theorem blsOf_map : ∀ (ns : List Bool), blsOf (ns.map D.bl) = some ns
  | [] => rfl
  | n :: ns => by simp only [List.map_cons, blsOf, blsOf_map ns]
section
variable {G : Glob} {X : Cx} {W : WX} {K : PySem.W.Frag} {F F' H H' : Hp}
theorem RepL.bls_of : ∀ {ns : List Bool} {xs : List V}, RepL G K F (ns.map D.bl) xs → xs = ns.map V.bl
  | [], xs, h => by unfold RepL at h; exact h
  | n :: ns, xs, h => by
    have h' : RepL G K F (D.bl n :: ns.map D.bl) xs := h
    unfold RepL at h'
    obtain ⟨x, r, rfl, h2, h3⟩ := h'
    unfold Rep at h2
    rw [h2, RepL.bls_of h3]; rfl
theorem at_lst {ds : List D} {x : V} (h : At G K F H (.lst ds) x) : ∃ a xs, x = .ref a ∧ SqL K H a xs ∧ RepL G K F ds xs := by
  obtain ⟨a, xs, h1, h2, h3⟩ := h
  exact ⟨a, xs, h1, SqL.of h2, h3⟩
theorem nr_bl {b : Bool} : NewR G K H F' H' (.v (.bl b)) (.bl b) := by show Rep _ _ _ _ _; unfold Rep; rfl
theorem nr_int {i : Int} : NewR G K H F' H' (.v (.int i)) (.int i) := by show Rep _ _ _ _ _; unfold Rep; rfl
theorem cv_len : CallOk G X (.builtin "len") gLen := ⟨_, call_len, by
  intro F H ds xs r Q s h e q
  unfold gLen at e
  split at e
  · obtain ⟨x, rfl, hx⟩ := ats_one h
    cases e
    obtain ⟨a, ys, rfl, h1, h2⟩ := at_lst hx
    exact ⟨.ref a, ys.length, rfl, .inl ⟨ys, h1, rfl⟩, q _ F H (.refl s) (by rw [h2.len]; exact nr_int)⟩
  · obtain ⟨x, rfl, hx⟩ := ats_one h
    cases e
    obtain ⟨a, ys, rfl, h1, h2⟩ := at_tup s hx
    exact ⟨.ref a, ys.length, rfl, .inr ⟨ys, h1, rfl⟩, q _ F H (.refl s) (by rw [h2.len]; exact nr_int)⟩
  · obtain ⟨x, rfl, hx⟩ := ats_one h
    split at e
    · rename_i z hz
      cases e
      cases at_str hx
      exact ⟨_, z.length, rfl, ⟨big_le hz, rfl⟩, q _ F H (.refl s) nr_int⟩
    · cases e
  · cases e⟩
theorem cv_int : CallOk G X (.type "int") gInt := ⟨_, call_int1, by
  intro F H ds xs r Q s h e q
  unfold gInt at e
  split at e
  · obtain ⟨x, rfl, hx⟩ := ats_one h
    cases e
    cases at_int hx
    exact .inl ⟨_, rfl, q _ F H (.refl s) nr_int⟩
  · obtain ⟨x, rfl, hx⟩ := ats_one h
    cases e
    cases at_bl hx
    exact .inr ⟨_, rfl, q _ F H (.refl s) nr_int⟩
  · cases e⟩
theorem cv_abs : CallOk G X (.builtin "abs") gAbs := ⟨_, call_abs, by
  intro F H ds xs r Q s h e q
  unfold gAbs at e
  split at e
  · obtain ⟨x, rfl, hx⟩ := ats_one h
    cases e
    cases at_int hx
    exact ⟨_, rfl, q _ F H (.refl s) nr_int⟩
  · cases e⟩
theorem cv_list : CallOk G X (.type "list") gList := ⟨_, call_list_of, by
  intro F H ds xs r Q s h e q
  unfold gList at e
  split at e
  · obtain ⟨x, rfl, hx⟩ := ats_one h
    cases e
    obtain ⟨a, ys, rfl, h1, h2⟩ := at_lst hx
    exact ⟨a, ys, rfl, .inl h1, fun l hl => q _ F _ (Grow.alloc s hl) (newL s hl h2)⟩
  · obtain ⟨x, rfl, hx⟩ := ats_one h
    cases e
    obtain ⟨a, ys, rfl, h1, h2⟩ := at_tup s hx
    exact ⟨a, ys, rfl, .inr h1, fun l hl => q _ F _ (Grow.alloc s hl) (newL s hl h2)⟩
  · obtain ⟨x, rfl, hx⟩ := ats_one h
    cases e
    obtain ⟨a, rfl, h1⟩ := at_scr s hx
    exact ⟨a, _, rfl, .inl h1, fun l hl => q _ F _ (Grow.alloc s hl) (newL s hl (RepL.ints _))⟩
  · cases e⟩
theorem cv_tuple : CallOk G X (.type "tuple") gTuple := ⟨_, call_tuple_of, by
  intro F H ds xs r Q s h e q
  unfold gTuple at e
  split at e
  · obtain ⟨x, rfl, hx⟩ := ats_one h
    cases e
    obtain ⟨a, ys, rfl, h1, h2⟩ := at_lst hx
    exact ⟨a, ys, rfl, .inl ⟨h1, fun l hl => q _ _ _ (Grow.allocF s hl) (newT s hl h2)⟩⟩
  · obtain ⟨x, rfl, hx⟩ := ats_one h
    cases e
    have hx' := hx
    obtain ⟨a, ys, rfl, h1, h2⟩ := at_tup s hx
    exact ⟨a, ys, rfl, .inr ⟨h1, q _ F H (.refl s) hx'⟩⟩
  · cases e⟩
theorem srt_eq {ns ns' : List Int} (p : ns'.Perm ns) (o : ns'.Pairwise (· ≤ ·)) : ns' = srt ns := by
  have h1 : (srt ns).Perm ns := List.mergeSort_perm ns _
  have h2 : (srt ns).Pairwise (· ≤ ·) := by
    refine (List.pairwise_mergeSort (le := fun a b : Int => decide (a ≤ b)) (fun a b c h h' => ?_) (fun a b => ?_) ns).imp fun h => of_decide_eq_true h
    · simp only [decide_eq_true_eq] at h h' ⊢; omega
    · simp only [Bool.or_eq_true, decide_eq_true_eq]; omega
  exact List.Perm.eq_of_pairwise (le := (· ≤ ·)) (fun a b _ _ h h' => Int.le_antisymm h h') o h2 (p.trans h1.symm)
theorem cv_sorted : CallOk G X (.builtin "sorted") gSorted := ⟨_, cr_sortedI, by
  intro F H ds xs r Q s h e q
  unfold gSorted at e
  split at e
  · rename_i ys
    obtain ⟨x, rfl, hx⟩ := ats_one h
    cases e1 : intsOf ys with
    | none => rw [e1] at e; cases e
    | some ns =>
      rw [e1] at e; cases e
      cases intsOf_some e1
      obtain ⟨a, zs, rfl, h1, h2⟩ := at_lst hx
      rw [h2.ints_of] at h1
      exact ⟨a, ns, rfl, h1, fun ns' p hp ho hn => by
        rw [srt_eq hp ho]
        exact q _ F _ (Grow.alloc s hn) (newL s hn (RepL.ints _))⟩
  · cases e⟩
theorem cv_sum (hc : X.calm = true) : CallOk G X (.builtin "sum") gSum := ⟨_, cr_sum hc, by
  intro F H ds xs r Q s h e q
  unfold gSum at e
  split at e
  · rename_i ys
    obtain ⟨x, rfl, hx⟩ := ats_one h
    cases e1 : intsOf ys with
    | none => rw [e1] at e; cases e
    | some ns =>
      rw [e1] at e; cases e
      cases intsOf_some e1
      obtain ⟨a, zs, rfl, h1, h2⟩ := at_lst hx
      rw [h2.ints_of] at h1
      exact ⟨a, ns, rfl, h1, q _ F H (.refl s) nr_int⟩
  · cases e⟩
theorem cv_any (hc : X.calm = true) : CallOk G X (.builtin "any") gAny := ⟨_, cr_any hc, by
  intro F H ds xs r Q s h e q
  unfold gAny at e
  split at e
  · rename_i ys
    obtain ⟨x, rfl, hx⟩ := ats_one h
    cases e1 : blsOf ys with
    | none => rw [e1] at e; cases e
    | some ns =>
      rw [e1] at e; cases e
      cases blsOf_some e1
      obtain ⟨a, zs, rfl, h1, h2⟩ := at_lst hx
      rw [h2.bls_of] at h1
      exact ⟨a, ns, rfl, h1, q _ F H (.refl s) nr_bl⟩
  · cases e⟩
theorem cv_all (hc : X.calm = true) : CallOk G X (.builtin "all") gAll := ⟨_, cr_all hc, by
  intro F H ds xs r Q s h e q
  unfold gAll at e
  split at e
  · rename_i ys
    obtain ⟨x, rfl, hx⟩ := ats_one h
    cases e1 : blsOf ys with
    | none => rw [e1] at e; cases e
    | some ns =>
      rw [e1] at e; cases e
      cases blsOf_some e1
      obtain ⟨a, zs, rfl, h1, h2⟩ := at_lst hx
      rw [h2.bls_of] at h1
      exact ⟨a, ns, rfl, h1, q _ F H (.refl s) nr_bl⟩
  · cases e⟩
theorem cv_max2 (hc : X.calm = true) : CallOk G X (.builtin "max") gMax2 := ⟨_, call_max2 hc, by
  intro F H ds xs r Q s h e q
  unfold gMax2 at e
  split at e
  · obtain ⟨x, y, rfl, hx, hy⟩ := ats_two h
    cases e
    cases at_int hx
    cases at_int hy
    exact ⟨_, _, rfl, q _ F H (.refl s) nr_int⟩
  · cases e⟩
theorem cv_min2 (hc : X.calm = true) : CallOk G X (.builtin "min") gMin2 := ⟨_, call_min2 hc, by
  intro F H ds xs r Q s h e q
  unfold gMin2 at e
  split at e
  · obtain ⟨x, y, rfl, hx, hy⟩ := ats_two h
    cases e
    cases at_int hx
    cases at_int hy
    exact ⟨_, _, rfl, q _ F H (.refl s) nr_int⟩
  · cases e⟩
/-! ### isinstance -/
/-- a value's type -/
inductive Tag where
  | ty (n : String) | cl (i : Nat)
  deriving DecidableEq
def tagOf : D → Option Tag
  | .non => some (.ty "NoneType")
  | .bl _ => some (.ty "bool")
  | .int _ => some (.ty "int")
  | .str _ => some (.ty "str")
  | .tup _ => some (.ty "tuple")
  | .lst _ => some (.ty "list")
  | .obj c _ _ => some (.cl c)
  | .dct _ _ => some (.ty "dict")
  | _ => none
def clsOf : D → Option Tag
  | .ty n => some (.ty n)
  | .cl i => some (.cl i)
  | _ => none
def tagV (G : Glob) : Tag → Value
  | .ty n => .type n
  | .cl i => .ref (G.ca i)
/-- isinstance by a table of answers -/
def isTab (tab : List (Tag × Tag × Bool)) (t u : Tag) : Option Bool := match tab with
  | [] => none
  | (a, b, r) :: rest => if a = t ∧ b = u then some r else isTab rest t u
def gIsi (tab : List (Tag × Tag × Bool)) : List D → Option Rv
  | [d, c] => match tagOf d, clsOf c with
    | some t, some u => (isTab tab t u).map fun b => .v (.bl b)
    | _, _ => none
  | _ => none
/-- the table is right; instances are of classes with the plain parts -/
structure TabOk (G : Glob) (K : PySem.W.Frag) (tab : List (Tag × Tag × Bool)) : Prop where
  ok : ∀ e ∈ tab, PySem.W.kitOne K (tagV G e.1) (tagV G e.2.1) = some e.2.2
  cl : ∀ e ∈ tab, ∀ i, e.1 = .cl i → Cls K (G.ca i) ∧ PySem.W.findIn K (.ref (G.ca i)) "__class__" = some (some (.builtin "object.__class__")) ∧ PySem.W.specialIn K (.builtin "object.__class__") "__get__" = some (some (.builtin "getset_descriptor.__get__")) ∧
    PySem.W.takesIn K (.builtin "object.__class__") = some true ∧ PySem.W.mroIn K (G.ca i) (.type "object") = some true
theorem isTab_mem {t u : Tag} {b : Bool} : ∀ {tab : List (Tag × Tag × Bool)}, isTab tab t u = some b → (t, u, b) ∈ tab
  | [], h => by cases h
  | (a, c, r) :: rest, h => by
    unfold isTab at h
    split at h
    · rename_i hc
      obtain ⟨rfl, rfl⟩ := hc
      cases h; exact .head _
    · exact .tail _ (isTab_mem h)
theorem tyX_of {d : D} {x : V} {t : Tag} (s : Sub F H) (h : At G K F H d x) (e : tagOf d = some t) (hc : ∀ i, t = .cl i → Cls K (G.ca i) ∧ PySem.W.findIn K (.ref (G.ca i)) "__class__" = some (some (.builtin "object.__class__")) ∧ PySem.W.specialIn K (.builtin "object.__class__") "__get__" = some (some (.builtin "getset_descriptor.__get__")) ∧
    PySem.W.takesIn K (.builtin "object.__class__") = some true ∧ PySem.W.mroIn K (G.ca i) (.type "object") = some true) : TyX K H x (tagV G t) := by
  cases d <;> simp only [tagOf] at e <;> cases e
  · cases at_non h; exact .base .non
  · cases at_bl h; exact .base (.bl _)
  · cases at_int h; exact .base (.int _)
  · cases at_str h; exact .base (.str _)
  · obtain ⟨a, xs, rfl, h1, h2⟩ := at_tup s h
    rcases h1 with (h1 | ⟨o, h1⟩) | ⟨o, its, n, k1, k2, _⟩
    · exact .base (.tup h1)
    · exact .fTuple h1
    · exact .kTuple k1 k2
  · obtain ⟨a, xs, rfl, h1, h2⟩ := h
    exact .base (.lst h1)
  · obtain ⟨a, dx, gs, rfl, h1, h2, h3⟩ := h
    obtain ⟨k1, k2, k3, k4, k5⟩ := hc _ rfl
    exact .base (.ins h1 k1 k2 k3 k4 k5)
  · obtain ⟨a, kvs, rfl, h1, h2, h3⟩ := h
    exact .base (.dK h1)
theorem at_cls {c : D} {x : V} {u : Tag} (h : At G K F H c x) (e : clsOf c = some u) : ClsV x (tagV G u) := by
  cases c <;> simp only [clsOf] at e <;> cases e
  · cases at_ty h; exact .ty _
  · rename_i i
    have h' : x = .ref (G.ca i) := by unfold At at h; unfold Rep at h; exact h
    rw [h']; exact .own _
theorem cv_isi {tab : List (Tag × Tag × Bool)} (T : TabOk G X.K tab) : CallOk G X (.builtin "isinstance") (gIsi tab) := ⟨_, call_isi, by
  intro F H ds xs r Q s h e q
  unfold gIsi at e
  split at e
  · rename_i d c
    obtain ⟨x, y, rfl, hx, hy⟩ := ats_two h
    cases e1 : tagOf d with
    | none => rw [e1] at e; cases e
    | some t =>
      cases e2 : clsOf c with
      | none => rw [e1, e2] at e; cases e
      | some u =>
        rw [e1, e2] at e
        simp only at e
        cases e3 : isTab tab t u with
        | none => rw [e3] at e; cases e
        | some b =>
          rw [e3] at e; cases e
          have m := isTab_mem e3
          exact ⟨x, y, _, _, b, rfl, at_cls hy e2, tyX_of s hx e1 (fun i hi => T.cl _ m i hi), T.ok _ m, q _ F H (.refl s) nr_bl⟩
  · cases e⟩
/-- isinstance(x, (c, ..)) -/
def anyTab (tab : List (Tag × Tag × Bool)) (t : Tag) : List D → Option Bool
  | [] => some false
  | c :: r => match clsOf c with
    | none => none
    | some u => match isTab tab t u with
      | some true => some true
      | some false => anyTab tab t r
      | none => none
def gIsiT (tab : List (Tag × Tag × Bool)) : List D → Option Rv
  | [d, .tup cs] => match tagOf d with
    | some t => (anyTab tab t cs).map fun b => .v (.bl b)
    | none => none
  | _ => none
end
end U
end part_U22

section part_U23
set_option Elab.async false
set_option linter.all false
set_option maxRecDepth 100000
set_option maxHeartbeats 1000000
/-! U23: constants, comprehensions, len of an own object. -/
namespace U
open PySem PyProof.Rows L2
section
variable {G : Glob} {X : Cx} {W : WX} {K : PySem.W.Frag} {σ σ1 σ' : L2.St} {F H H0 F1 H1 F' H' : Hp} {ρ ρ0 ρ1 ρ2 ρ' : Ro} {e o elt tg iter : Expr} {ifs : List Expr} {fe fo : EV} {ft : TV} {w : WV} {pos p : Pos} {asg : GV}
theorem se_int {i : Int} {j : Nat} : SimE G X W (.Constant (.int i) j pos) (eK (.int i)) := PE.of pe_int fun σ H Q h => rd_k (fun F => by unfold Rep; rfl) h
theorem se_str {i : Str} {j : Nat} : SimE G X W (.Constant (.str i) j pos) (eK (.str i)) := PE.of pe_str fun σ H Q h => rd_k (fun F => by unfold Rep; rfl) h
theorem se_bl {i : Bool} {j : Nat} : SimE G X W (.Constant (.bool i) j pos) (eK (.bl i)) := PE.of pe_bl fun σ H Q h => rd_k (fun F => by unfold Rep; rfl) h
theorem se_non {j : Nat} : SimE G X W (.Constant .none j pos) (eK .non) := PE.of pe_non fun σ H Q h => rd_k (fun F => by unfold Rep; rfl) h
theorem se_var (i : Nat) {x : Str} (hN : X.N[i]? = some x := by rfl) (hv : Vis X.env.scope x := by first | exact Or.inl rfl | exact Or.inr (Or.inl rfl) | exact Or.inr (Or.inr rfl)) (hd : (x == ("__debug__" : Str)) = false := by decide) (hcd : (x == ("__classdict__" : Str)) = false := by decide) : SimE G X W (.Name x pos) (eVar i) :=
  PE.of (pe_var hN hv hd hcd) fun σ H Q h => rd_var h
/-- a global of the module -/
theorem se_glob {x : Str} {d : D} {v : V} {u : Value} (hm : X.mg x = some u) (r : RelV v u) (hr : ∀ F, Rep G X.K F d v) (hg : Gl X x := by rfl) (hd : (x == ("__debug__" : Str)) = false := by decide) : SimE G X W (.Name x pos) (eK d) := PE.of (pe_glob hg hm r hd) fun σ H Q h => rd_k hr h
theorem se_type {x : Str} {n : String} (hm : X.mg x = none) (hv : bootBuiltins x = some (.type n) := by decide +kernel) (hg : Gl X x := by rfl) (hn : x ≠ "__name__" := by decide) (hd : (x == ("__debug__" : Str)) = false := by decide) : SimE G X W (.Name x pos) (eK (.ty n)) :=
  PE.of (pe_bltn (v := .ty n) hg hm hv rfl hn hd) fun σ H Q h => rd_k (fun F => by unfold Rep; rfl) h
theorem se_clsN {x : Str} {i : Nat} (hm : X.mg x = some (.ref (G.ca i))) (hg : Gl X x := by rfl) (hd : (x == ("__debug__" : Str)) = false := by decide) : SimE G X W (.Name x pos) (eK (.cl i)) :=
  PE.of (pe_glob (v := .ref (G.ca i)) hg hm rfl hd) fun σ H Q h => rd_k (fun F => by unfold Rep; rfl) h
theorem takes0 {X : Cx} : Takes X W0 := fun _ _ ⟨_, _, _, _, _, _, _, _, _, _, _, _, _, _, _, _, w⟩ => w.elim
/-- [elt for tg in iter if ..] -/
theorem se_comp {scope : Scope} {own : List (Str × Nat)} {is : List Nat} {g : TG} (hc : X.calm = true) (hN : X.N.Nodup) (hi : SimI G X W tg iter w) (ok : BlkOk X.N X.env.scope scope own) (hT : TgOk G X.K g is asg) (his : ∀ j ∈ is, j ∈ own.map (·.2))
    (hg : ∀ (s : Shared) (H : Hp) (C : Addr) (cl : List (Str × Addr)) (fp : List Addr), PG (X.blk s H scope (compEnvC scope cl C X.env) fp) tg g) (ht : ∀ (s : Shared) (H : Hp) (C : Addr) (cl : List (Str × Addr)) (fp : List Addr), PTs (X.blk s H scope (compEnvC scope cl C X.env) fp) ifs (RdT G X.K W0 ft))
    (he : ∀ (s : Shared) (H : Hp) (C : Addr) (cl : List (Str × Addr)) (fp : List Addr), SimE G (X.blk s H scope (compEnvC scope cl C X.env) fp) W0 elt fe) (hs : ∀ x, foldedSetIterable iter X.env x = pure x := by intro _; rfl) :
    SimE G X W (.ListComp elt [⟨tg, iter, ifs, 0⟩] scope pos) (eComp (own.map (·.2)) asg w ft fe) := by
  obtain ⟨wi, h1, k1⟩ := hi.ex
  exact PE.of (pe_lc hc hN h1 ok hg ht he hs) fun σ H Q h => rd_comp k1 hT his h
theorem pts0 : PTs X [] (RdT G K W tYesU) := ⟨fun pins s σ H Q I h => by
  obtain ⟨ρ, F, s', l, o⟩ := h
  exact pts_nil.run pins s σ H Q I (o.done (Go.refl s' l) rfl)⟩
theorem pts1 {c : Expr} (h : SimT G X W c ft) : PTs X [c] (RdT G X.K W ft) := pts_one h
theorem tNotYes : True := trivial
end
/-! ### len of an own object -/
def lenV (fv : EV) : EV := fun ρ => match fv ρ with
  | .ok (.v (.int n)) ρ1 => if 0 ≤ n ∧ n < 2 ^ 63 then .ok (.v (.int n)) ρ1 else .no
  | .ex e ρ1 => .ex e ρ1
  | _ => .no
def eLenO (c : Nat) (fv fo : EV) : EV := eMeth c "__len__" 0 0 [.inl 0] [] (lenV fv) fo aNil aNil
section
variable {G : Glob} {X : Cx} {W : WX} {K : PySem.W.Frag} {σ : L2.St} {F H H0 : Hp} {ρ : Ro} {o : Expr} {fo fv : EV} {pos p : Pos} {k c : Nat} {f : Addr} {fd : FuncData} {ps : List Str} {rs rc : List Rv} {dvs : List V} {pk : Pk} {dds : List D}
theorem out_len {ρa : Ro} {vs : List V} {Q : VK} (h : Out G K W (RepR G K) (vs.map some) F H ρa (lenV fv ρa) Q) : Out G K W (RepR G K) (vs.map some) F H ρa (fv ρa) fun v H' => ∃ n, v = .int n ∧ 0 ≤ n ∧ n < 2 ^ 63 ∧ Q (.int n) H' := by
  unfold lenV at h
  cases e : fv ρa with
  | no => simp only [e] at h; exact h
  | ex e' ρ1 => simp only [e] at h; exact h
  | ok r ρ1 =>
    cases r with
    | fr d => simp only [e] at h; exact h.elim
    | bo i => simp only [e] at h; exact h.elim
    | v d =>
      cases d <;> simp only [e] at h <;> try exact h.elim
      rename_i n
      split at h
      · rename_i hn
        intro v F' H' g p
        have p' : Rep G K F' (.int n) v := p
        unfold Rep at p'
        subst p'
        exact ⟨n, rfl, hn.1, hn.2, h _ F' H' g p⟩
      · exact h.elim
theorem one_arg {P : V → Hp → Prop} (h : RdE G K W fo σ H P) : tCons (RdE G K W fo) tNil σ H (fun vs H1 => ∃ y, vs = [y] ∧ P y H1) := Rd.mono (fun y H1 q => ⟨y, rfl, q⟩) h
theorem se_lenO {x : Str} (ho : SimE G X W o fo) (C : Cls X.K (G.ca c)) (hs : PySem.W.findIn X.K (.ref (G.ca c)) "__len__" = some (some (.ref f))) (hf : PySem.W.isFn X.K (.ref f) = true) (Fn : FnU G X.prog X.w X.K X.mg X.base k f fd ps fv) (hr : Room (k + 1) X.A) (hgd : X.A.guards = some []) (tk : Takes X W) (B : BindU X.K fd ps 1 [] [.inl 0] []) (hx : x = "len") (hm : X.mg x = none) (hg : Gl X x := by rfl)
    (he : starEach [o] X.env = (false, eval o X.env) :: starEach [] X.env := by rfl) : SimE G X W (.Call (.Name x p) [o] [] pos) (eLenO c fv fo) := by
  subst hx
  refine ⟨fun pins s σ H Q I h => ?_⟩
  refine wpAny_Call_Name_kw (ld_blt I hg hm (u := .builtin "len") (by decide +kernel) ?_ (by decide) (by decide))
  refine PyProof.Rows.callWith_builtin1 (thn ((pa_cons ho pa_nil he).run pos pins s σ H _ I (one_arg (rd_meth h))) fun us s1 ⟨vs, H1, I1, r1, y, ev, q⟩ => ?_) he rfl
  · subst ev
    obtain ⟨a, dx, fs, rfl, ea, hl, q⟩ := q
    obtain ⟨u, rfl, ru⟩ := vals1 r1
    obtain rfl : u = Value.ref a := ru
    obtain ⟨ρ1, F1, s', l, o1⟩ := q
    obtain ⟨ρ2, F2, s'', l', o2⟩ := o1.done (Go.refl s' l) .nil
    obtain ⟨ρ3, F3, rs, ρ0, F0, g, h1, h2, P, o3⟩ := o2.done (Go.refl s'' l') .nil
    obtain ⟨mA, O, _⟩ := ins_get I1.hok ea
    obtain ⟨od, J, _⟩ := O.look
    obtain ⟨m, fr⟩ := I1.fr
    refine PySem.W.len_K fr I1.ok.mod.kin J hs hf ?_
    cases e : pickL [.inl 0] rs ([] : List Rv) with
    | none => rw [show (([] : List D).map Rv.v) = [] from rfl, e] at o3; exact o3.elim
    | some rc =>
      rw [show (([] : List D).map Rv.v) = [] from rfl, e] at o3
      obtain ⟨cv, q1, q2⟩ := pick_rep P (.nil) e
      obtain ⟨its, q3, q4⟩ := B.ex
      obtain ⟨cs, q5, q6⟩ := pick_vals (us := [.ref a]) (.cons (show RelV (V.ref a) (Value.ref a) from rfl) .nil) q3 q1
      obtain ⟨ρa, la, oa⟩ := out_call g.sl q2 g.sub (o3.after oldE g)
      refine wpAny_call (codeAny_mono (Fn.run X.A.in1 X.stack s1 H1 ⟨[.ref a], []⟩ cs cv _ (fun c d H' => W c d σ H') F3 ρa hr.in1 hgd I1.env0.in1 (q4 s1 [.ref a] [] cs I1.kIn rfl rfl q5) q6 ((pick_len q1).trans B.len) g.sub la (out_len oa)) fun r s' hq => ?_)
      cases r with
      | error e => exact tk e s' (XE.of_call I1 (fun _ _ _ h => h) hq)
      | ok fl =>
        cases fl with
        | ret u =>
          obtain ⟨v, H', I3, rv, n, ev, h0, h63, q7⟩ := I1.after hq
          subst ev
          obtain ⟨t, rfl⟩ := rv
          exact ⟨⟨h0, h63⟩, ⟨.int n, H', I3.tok _, ⟨_, rfl⟩, q7⟩⟩
        | next => exact hq.elim
        | brk => exact hq.elim
        | cont => exact hq.elim
end
end U
end part_U23

section part_U24
set_option Elab.async false
set_option linter.all false
set_option maxRecDepth 100000
set_option maxHeartbeats 1000000
/-! U24: the head of a law: from the promise of law(script). -/
namespace U
open PySem PyProof.Rows L2
/-- the law's def answers true at each script -/
def LawOk (fv : EV) : Prop := ∀ ns : List Int, ns.length ≤ 63 → (∀ z ∈ ns, Builtin.Int.intBits z ≤ 1048576) → ∃ ρ', fv [some (.val false (.scr ns))] = .ok (.v (.bl true)) ρ'
section
variable {P : Program} {w : World} {K : PySem.W.Frag} {mg mb : Str → Option Value} {k : Nat} {fa a : Addr} {fd : FuncData} {x : Str} {fv : EV} {s₁ : Shared} {vs : List Value} {ns : List Int} {G : Glob}
theorem only_scr {H : Hp} (hS : SqL K H a (ns.map V.int)) : SlOk G K H H ([V.ref a].map some) [some (.val false (.scr ns))] := by
  refine ⟨rfl, fun i p d h => ?_, fun i p d h => ?_, fun i p d h => ?_, fun i j p q d e b h => ?_, fun i h => ?_⟩
  · cases i with
    | zero =>
      simp at h
      obtain ⟨rfl, rfl⟩ := h
      refine ⟨.ref a, rfl, ?_⟩
      unfold Rep
      exact ⟨a, rfl, hS⟩
    | succ i => simp at h
  all_goals (cases i <;> simp at h)
theorem run_law (KX : K.In s₁.heap) (hns : s₁.heap.Ns mainGlobals mg) (hb : s₁.heap.Ns builtinsNs mb) (hbb : ∀ x : Str, x ≠ "__name__" → mb x = bootBuiltins x) (hlim : s₁.heap.NoLimit) (hgen : s₁.gens = #[])
    (ha : s₁.heap.get? a = some { cls := .type "list", data := .seq vs.toArray }) (hi : IntsAre vs ns) (hl : ns.length ≤ 63) (hr : Room k callerA) (hbits : ∀ z ∈ ns, Builtin.Int.intBits z ≤ 1048576)
    (Fn : ∀ base : Heap, K.In base → base.Ns mainGlobals mg → FnU G P w K mg base k fa fd [x] fv) (hbind : ∀ (s : Shared) (u : Value), BindsTo s fd ⟨[u], []⟩ [(x, u)]) (ok : LawOk fv) :
    codeAny (model P w) callerA (.call (.ref fa) ⟨[.ref a], []⟩) (fun r s' => r = .ok (.ret (.bool true)) ∧ OldK s₁.heap s'.heap ∧ s'.os = s₁.os ∧ AllBare s'.gens) s₁ := by
  have relv : Vals (ns.map V.int) vs := vals_ints hi
  have hlen : vs.length = ns.length := hi.length
  -- from a heap in which nothing but the script is tracked
  have from_ : ∀ H : Hp, (∀ b, H b = none ∨ ∃ o xs, H b = some (.frz o (.lst xs))) → SqL K H a (ns.map V.int) → HOk P w H s₁.heap → (∀ b, H b ≠ none → b = a) → (H a ≠ none → K.lookup a = none) →
      codeAny (model P w) callerA (.call (.ref fa) ⟨[.ref a], []⟩) (fun r s' => r = .ok (.ret (.bool true)) ∧ OldK s₁.heap s'.heap ∧ s'.os = s₁.os ∧ AllBare s'.gens) s₁ := by
    intro H hO hS hok hA hK
    have dictFree : ∀ {b : Addr} {o : Obj} {es : Array DictEntry} {ep : Nat}, s₁.heap.get? b = some o → o.data = .dict es ep → H b = none := fun {b o es ep} e d => by
      by_cases q : H b = none
      · exact q
      · have e' := hA b q
        rw [e', ha] at e
        cases e
        have d' : Data.seq vs.toArray _ = Data.dict es ep := d
        cases d'
    have keepNs : ∀ {b : Addr} {m : Str → Option Value}, s₁.heap.Ns b m → (hidT s₁.heap H).Ns b m := fun {b m} ⟨o, es, ep, e, d, r⟩ => ⟨o, es, ep, hidT_get e (dictFree e d), d, r⟩
    have inB : K.In (hidT s₁.heap H) := fun b o e => hidT_get (KX b o e) (by
      by_cases q : H b = none
      · exact q
      · have e' := hA b q
        rw [e'] at e q
        rw [hK q] at e; cases e)
    have hM : Mod K mg (hidT s₁.heap H) := ⟨inB, keepNs hns, ⟨mb, keepNs hb, hbb⟩, let ⟨mc, h1, h2⟩ := hlim; ⟨mc, keepNs h1, h2⟩⟩
    have e0 : Env0 P w K mg (hidT s₁.heap H) callerA [] s₁ H := ⟨rfl, hM, fun b o e => of_hidT e, Nat.le_of_eq (hidT_size _ _), trivial, (fun b z => by cases z), hok, AllBare.of_eq hgen⟩
    obtain ⟨ρ', hv⟩ := ok ns hl hbits
    have run := (Fn _ inB (keepNs hns)).run callerA [] s₁ H ⟨[.ref a], []⟩ [.ref a] [.ref a] (fun v _ => v = .bl true) (fun _ _ _ => False) H [some (.val false (.scr ns))] hr rfl e0 (hbind s₁ (.ref a)) (.cons rfl .nil) rfl .refl (only_scr hS) (by
      rw [hv]
      intro v F' H' g p
      have p' : Rep G K F' (.bl true) v := p
      unfold Rep at p'
      exact p')
    refine codeAny_mono run fun r s' h => ?_
    cases r with
    | error e =>
      obtain ⟨_, _, _, _, _, _, _, _, _, _, _, _, z⟩ := h
      exact z.elim
    | ok fl =>
      cases fl with
      | next => exact h.elim
      | brk => exact h.elim
      | cont => exact h.elim
      | ret u =>
        obtain ⟨v, H', os, bare, un, hok', rv, q⟩ := h
        subst q
        obtain rfl : u = Value.bool true := rv
        refine ⟨rfl, OldK.of_keep fun b o e => ?_, os, bare⟩
        rcases hO b with z | ⟨ob, xs, z⟩
        · exact un.keep b o e z (fun z => by cases z) (by simp)
        · obtain ⟨e1, _⟩ := hok b _ z
          obtain ⟨e2, _⟩ := hok' b _ (un.frzs b ob _ z)
          rw [e] at e1; cases e1
          exact e2
  have hsz : ns.length ≤ sizeLine := Nat.le_trans hl (by rw [sizeLine_eq]; decide)
  by_cases hk : K.lookup a = none
  · refine from_ (fun b => if b = a then some (.frz { cls := .type "list", data := .seq vs.toArray } (.lst (ns.map V.int))) else none) (fun b => ?_) (.inl (.inr ⟨{ cls := .type "list", data := .seq vs.toArray }, if_pos rfl⟩)) (fun b u z => ?_) (fun b z => ?_) fun _ => hk
    · by_cases hb : b = a
      · exact .inr ⟨_, _, if_pos hb⟩
      · exact .inl (if_neg hb)
    · by_cases hb : b = a
      · subst hb
        dsimp only at z
        rw [if_pos rfl] at z
        cases z
        exact ⟨ha, by rw [List.length_map]; exact hsz, vs, _, relv, ha⟩
      · dsimp only at z
        rw [if_neg hb] at z; cases z
    · by_cases hb : b = a
      · exact hb
      · exact absurd (if_neg hb) z
  · obtain ⟨o, hko⟩ := Option.ne_none_iff_exists'.mp hk
    have e := KX a o hko
    rw [ha] at e
    cases e
    exact from_ (fun _ => none) (fun _ => .inl rfl) (.inr ⟨_, vs.toArray, _, hko, rfl, rfl, rfl, by rw [List.size_toArray, hlen]; exact hsz, by simpa using relv⟩) (fun b u z => nomatch z) (fun b z => absurd rfl z) fun z => absurd rfl z
end
theorem walk_ofU {l : PySem.W.OpenLaw} {k : Nat} {q : Program} {loose : List Str} {XP : (Str → Option Value) → Heap → Prop} {YP : World → Heap → Prop} {d : DefRec} {K : Params → PySem.W.Frag} {x : Str} {fv : EV}
    (hn : l.most = some 63) (hdf : d.params.defaults = []) (hr : Room k callerA) (hY : ∀ (w : World) (h : Heap), YP w h → (K w.params).In h)
    (Fn : ∀ (w : World) (mg : Str → Option Value) (fa : Addr) (h : Heap), (K w.params).In h → h.Ns mainGlobals mg → mg d.name = some (.ref fa) →
      ∃ (G : Glob) (fd : FuncData), (∀ (s : Shared) (u : Value), BindsTo s fd ⟨[u], []⟩ [(x, u)]) ∧ ∀ base : Heap, (K w.params).In base → base.Ns mainGlobals mg → FnU G l.prog w (K w.params) mg base k fa fd [x] fv) (ok : LawOk fv) :
    PySem.W.WalkO q loose XP YP l.row.toRowW d [] (fun f vs => PySem.call f vs) := by
  refine Att.attach_callB hn hdf fun w s₀ s₁ mg mb fa o pm cd doc a vs ns Gr Y ho hd hcd hmg hobj hints hlen hbits hg => ?_
  obtain ⟨G, fd, hb, hF⟩ := Fn w mg fa _ (hY w _ Y) Gr.T.g hmg
  exact run_law (hY w _ Y) Gr.T.g Gr.T.b Gr.T.builtins Gr.T.nolimit hg hobj hints hlen hr hbits hF hb ok
end U
end part_U24

section part_U25
set_option Elab.async false
set_option linter.all false
set_option maxRecDepth 100000
set_option maxHeartbeats 1000000
/-! U25: list(range(..)); isinstance of a caught error. -/
namespace U
open PySem PyProof.Rows L2
def rgOk (a b : Int) : Bool := decide (-(2 ^ 62) ≤ a ∧ a < 2 ^ 62 ∧ -(2 ^ 62) ≤ b ∧ b < 2 ^ 62 ∧ (b - a).toNat ≤ 2 ^ 24)
def eListR1 (fa : EV) : EV := fun ρ => (fa ρ).bind fun r ρ1 => match con ρ1 r with
  | some (.int n) => if rgOk 0 n = true then .ok (.fr (.lst (rangeD 0 n.toNat))) ρ1 else .no
  | _ => .no
def eListR2 (fa fb : EV) : EV := fun ρ => (fa ρ).bind fun r ρ1 => (fb ρ1).bind fun q ρ2 => match cons2 ρ2 r q with
  | some (.int m, .int n) => if rgOk m n = true then .ok (.fr (.lst (rangeD m (n - m).toNat))) ρ2 else .no
  | _ => .no
section
variable {G : Glob} {X : Cx} {W : WX} {K : PySem.W.Frag} {F H : Hp} {a b : Expr} {fa fb : EV} {p q pos pos' : Pos} {k : Nat}
theorem rgOk_ok {m n : Int} (h : rgOk m n = true) : RgOk m n := by
  unfold rgOk at h
  have z := of_decide_eq_true h
  exact z
theorem rep_rg {m n : Int} : RepL G K F (rangeD m (n - m).toNat) (rgV m n) := by
  unfold rangeD rgV
  generalize (n - m).toNat = j
  have key : ∀ l : List Nat, RepL G K F (l.map fun (k : Nat) => D.int (m + (k : Int))) (l.map fun i => V.int (m + (i : Nat))) := by
    intro l
    induction l with
    | nil => exact repL_mk0
    | cons x l ih => exact repL_mk rfl ih
  exact key _
theorem se_listR1 (hc : X.calm = true) (hm : X.mg "list" = none) (hm2 : X.mg "range" = none) (ha : SimE G X W a fa) (hg : Gl X "list" := by rfl) (hg2 : Gl X "range" := by rfl) (na : starEach [a] X.env = (false, eval a X.env) :: starEach [] X.env := by rfl)
    (na2 : starEach [.Call (.Name "range" q) [a] [] pos'] X.env = (false, eval (.Call (.Name "range" q) [a] [] pos') X.env) :: starEach [] X.env := by rfl) : SimE G X W (.Call (.Name "list" p) [.Call (.Name "range" q) [a] [] pos'] [] pos) (eListR1 fa) :=
  PE.of (pe_listRg hc hg hm (prg_1 hg2 hm2 ha na) na2) fun σ H Q h => by
    obtain ⟨ρ, F, s, l, o⟩ := h
    refine Rd.mono ?_ (rd_bind oldE s l o)
    rintro x H1 ⟨r1, ρ1, F1, g1, p1, o1⟩
    cases e1 : con ρ1 r1 with
    | none => simp only [e1] at o1; exact o1.no_
    | some d =>
      cases d <;> simp only [e1] at o1 <;> try exact o1.no_
      rename_i n
      by_cases hr : rgOk 0 n = true
      case neg => rw [if_neg hr] at o1; exact o1.no_
      rw [if_pos hr] at o1
      cases at_int (at_of g1.sub g1.sl p1 e1)
      refine ⟨n, rfl, rgOk_ok hr, fun l' hl' => ?_⟩
      have z' : NewR G X.K H1 F1 (upd H1 l' (.lst (rgV 0 n))) (.fr (.lst (rangeD 0 (n - 0).toNat))) (.ref l') := newL g1.sub hl' rep_rg
      rw [show n - 0 = n from by omega] at z'
      exact o1.done (g1.alloc hl') (z'.rep g1 (Grow.alloc g1.sub hl'))
theorem se_listR2 (hc : X.calm = true) (hm : X.mg "list" = none) (hm2 : X.mg "range" = none) (ha : SimE G X W a fa) (hb : SimE G X W b fb) (hg : Gl X "list" := by rfl) (hg2 : Gl X "range" := by rfl) (na : starEach [a, b] X.env = (false, eval a X.env) :: starEach [b] X.env := by rfl) (nb : starEach [b] X.env = (false, eval b X.env) :: starEach [] X.env := by rfl)
    (na2 : starEach [.Call (.Name "range" q) [a, b] [] pos'] X.env = (false, eval (.Call (.Name "range" q) [a, b] [] pos') X.env) :: starEach [] X.env := by rfl) : SimE G X W (.Call (.Name "list" p) [.Call (.Name "range" q) [a, b] [] pos'] [] pos) (eListR2 fa fb) :=
  PE.of (pe_listRg hc hg hm (prg_2 hg2 hm2 ha hb na nb (by rw [nb]; rfl)) na2) fun σ H Q h => by
    obtain ⟨ρ, F, s, l, o⟩ := h
    refine Rd.mono ?_ (rd_bind oldE s l o)
    rintro x H1 ⟨r1, ρ1, F1, g1, p1, o1⟩
    refine Rd.mono ?_ (rd_more g1 o1)
    rintro y H2 ⟨r2, ρ2, F2, g2, p2, o2⟩
    have g := g1.trans g2
    have p1' := p1.go g2
    unfold cons2 at o2
    cases e1 : con ρ2 r1 with
    | none => simp only [e1] at o2; exact o2.no_
    | some d =>
      cases e2 : con ρ2 r2 with
      | none => simp only [e1, e2] at o2; exact o2.no_
      | some d2 =>
        simp only [e1, e2] at o2
        split at o2
        case h_2 => exact o2.no_
        rename_i m n heq
        cases heq
        by_cases hr : rgOk m n = true
        case neg => rw [if_neg hr] at o2; exact o2.no_
        rw [if_pos hr] at o2
        cases at_int (at_of g2.sub g2.sl p1' e1)
        cases at_int (at_of g2.sub g2.sl p2 e2)
        exact ⟨m, n, rfl, rfl, rgOk_ok hr, fun l' hl' => o2.done (g.alloc hl') ((newL g2.sub hl' rep_rg).rep g (Grow.alloc g2.sub hl'))⟩
end
/-- isinstance(error, C) in a suite -/
def eIsX (tab : List (Tag × Tag × Bool)) (i : Nat) (e : D) (u : Tag) : EV := fun ρ => match ρ[i]? with
  | some (some .exc) => match e with
    | .obj k _ _ => match isTab tab (.cl k) u with
      | some b => .ok (.v (.bl b)) ρ
      | none => .no
    | _ => .no
  | _ => .no
/-- of the error's class -/
structure ExT (K : PySem.W.Frag) (C : Addr) : Prop where
  x : XfC K C
  ha : PySem.W.findIn K (.ref C) "__class__" = some (some (.builtin "object.__class__"))
  hn : PySem.W.specialIn K (.builtin "object.__class__") "__get__" = some (some (.builtin "getset_descriptor.__get__"))
  ht : PySem.W.takesIn K (.builtin "object.__class__") = some true
  hm : PySem.W.mroIn K C (.type "object") = some true
section
variable {G : Glob} {X : Cx} {W : WX}
theorem call_isX {a C dx : Addr} {oe : Obj} {pn : List (Addr × Obj)} (T : ExT X.K C) (hz : Zc (.ref C) (some dx) oe) (hf : ∃ vs, oe.data = .fields vs) : CallR (X.suite a ((a, oe) :: pn)) (.builtin "isinstance")
    (fun xs H Q => ∃ (c : V) (cv : Value) (b : Bool) (fs : List (Str × V)), xs = [.ref a, c] ∧ ClsV c cv ∧ PySem.W.kitOne X.K (.ref C) cv = some b ∧ H dx = some (.xd fs) ∧ Q (.bl b) H) := by
  intro pins s σ H xs us Q I r h
  obtain ⟨c, cv, b, fs, rfl, hcv, e, ea, q⟩ := h
  obtain ⟨u, u', rfl, rx, rc⟩ := vals2 r
  obtain rfl : u = Value.ref a := rx
  cases hcv.eq rc
  obtain ⟨hget, _⟩ := I.pin (a, oe) (List.mem_append_left _ List.mem_cons_self)
  obtain ⟨vs, hd⟩ := hf
  obtain ⟨mA, hns, _⟩ := (show ObjOk X.prog X.w H s.heap dx (.xd fs) from I.hok dx _ ea)
  obtain ⟨od, ho, _⟩ := lookIn_ns hns
  have J : PySem.W.InstAt s.heap a oe C (some od) := ⟨hget, hz.1, by unfold PySem.W.notCls; rw [hd] <;> rfl, by rw [hz.2]; exact ho⟩
  have hcl : (PySem.W.clsIn X.K C).isSome = true := by
    obtain ⟨cd, hc, _⟩ := PySem.W.any_some T.x.hdC
    rw [hc]; rfl
  exact PySem.W.kia_one (PySem.W.kitx_exc (ox := oe) (od := some od) hcl T.x.ga T.x.gg T.x.exC T.ha T.hn T.ht T.hm) I.kIn J e (fun z => nomatch z) fun tk => ⟨.bl b, H, I.kept (t' := tk) fun _ _ z => z, rfl, q⟩
theorem se_isX {a dx : Addr} {oe : Obj} {pn : List (Addr × Obj)} {k i : Nat} {ks : List Str} {ds : List D} {tab : List (Tag × Tag × Bool)} {u : Tag} {x y : Str} {p p1 p2 pos : Pos} {v : V} (hz : Zc (.ref (G.ca k)) (some dx) oe) (hf : ∃ vs, oe.data = .fields vs) (hT : ∀ e ∈ tab, ∀ j, e.1 = .cl j → ExT X.K (G.ca j)) (hk : ∀ e ∈ tab, PySem.W.kitOne X.K (tagV G e.1) (tagV G e.2.1) = some e.2.2)
    (hv : PE (X.suite a ((a, oe) :: pn)) (.Name x p1) (tVar i)) (hy : PE (X.suite a ((a, oe) :: pn)) (.Name y p2) (tC v)) (hc : ClsV v (tagV G u)) (hm : X.mg "isinstance" = none) (hg : Gl (X.suite a ((a, oe) :: pn)) "isinstance" := by rfl)
    (he : starEach [.Name x p1, .Name y p2] X.env = (false, eval (.Name x p1) X.env) :: starEach [.Name y p2] X.env := by rfl) (hpl : (backTo pos (starEach [.Name y p2] X.env)).any (·.1) = false := by rfl) (he2 : starEach [.Name y p2] X.env = (false, eval (.Name y p2) X.env) :: starEach [] X.env := by rfl) :
    SimE (gX G a dx (.obj k ks ds)) (X.suite a ((a, oe) :: pn)) W (.Call (.Name "isinstance" p) [.Name x p1, .Name y p2] [] pos) (eIsX tab i (.obj k ks ds) u) := by
  refine ⟨fun pins s σ H Q I h => ?_⟩
  obtain ⟨ρ, F, sF, l, o⟩ := h
  unfold eIsX at o
  split at o
  case h_2 => exact o.elim
  rename_i hx
  simp only at o
  cases e : isTab tab (.cl k) u with
  | none => simp only [e] at o; exact o.elim
  | some b =>
    simp only [e] at o
    obtain ⟨h1, c, ks', ds', fs, h2, h3, h4, h5⟩ := l.exc i hx
    have m := isTab_mem e
    refine (pe_callB (X := X.suite a ((a, oe) :: pn)) (call_isX (X := X) (hT _ m k rfl) hz hf) hg hm (by decide +kernel) (pa_cons hv (pa_cons hy pa_nil he2) he) (by decide) (by decide) he hpl).run pins s σ H Q I ?_
    exact ⟨.ref a, h1, v, _, b, fs, rfl, hc, hk _ m, sF _ _ h3, o.done (Go.refl sF l) (show Rep _ _ _ _ _ by unfold Rep; rfl)⟩
end
end U
end part_U25

section part_U26
set_option Elab.async false
set_option linter.all false
set_option maxRecDepth 100000
set_option maxHeartbeats 1000000
/-! U26: x = [.. for ..]; words for the walk. -/
namespace U
open PySem PyProof.Rows L2
section
variable {G : Glob} {X : Cx} {W : WX} {K : PySem.W.Frag} {elt tg iter : Expr} {ifs : List Expr} {fe : EV} {ft : TV} {w : WV} {asg : GV}
theorem ss_setComp {i : Nat} {y : Str} {py pos spos : Pos} {scope : Scope} {own : List (Str × Nat)} {is : List Nat} {g : TG} (hc : X.calm = true) (hN : X.N.Nodup) (hy : X.N[i]? = some y) (hi : SimI G X W tg iter w) (ok : BlkOk X.N X.env.scope scope own) (hT : TgOk G X.K g is asg) (his : ∀ j ∈ is, j ∈ own.map (·.2))
    (hg : ∀ (s : Shared) (H : Hp) (C : Addr) (cl : List (Str × Addr)) (fp : List Addr), PG (X.blk s H scope (compEnvC scope cl C X.env) fp) tg g) (ht : ∀ (s : Shared) (H : Hp) (C : Addr) (cl : List (Str × Addr)) (fp : List Addr), PTs (X.blk s H scope (compEnvC scope cl C X.env) fp) ifs (RdT G X.K W0 ft))
    (he : ∀ (s : Shared) (H : Hp) (C : Addr) (cl : List (Str × Addr)) (fp : List Addr), SimE G (X.blk s H scope (compEnvC scope cl C X.env) fp) W0 elt fe) (hyl : X.env.scope.names.lookup y = some .local := by rfl)
    (hsw : swapsWith (.ListComp elt [⟨tg, iter, ifs, 0⟩] scope pos) (some (.Name y py)) spos.line X.env = pure true := by rfl) (hs : ∀ x, foldedSetIterable iter X.env x = pure x := by intro _; rfl) :
    SimS G X W (.Assign [.Name y py] (.ListComp elt [⟨tg, iter, ifs, 0⟩] scope pos) spos) (sAsg i (eComp (own.map (·.2)) asg w ft fe)) := by
  obtain ⟨wi, h1, k1⟩ := hi.ex
  refine PS.of (ps_setLc (te := RdE G X.K W0 fe) (tt := RdT G X.K W0 ft) hc hN hy hyl hsw h1 ok hg ht he hs) fun Dn σ H h => ?_
  unfold tAsg
  refine rd_comp (W := W) k1 hT his ?_
  refine rds1 (f := eComp (own.map (·.2)) asg w ft fe) h fun r v ρ1 F1 H1 l g p o => ?_
  cases e : asgn i r ρ1 with
  | none => rw [e] at o; exact o.elim
  | some ρ2 =>
    rw [e] at o
    obtain ⟨F2, g2, _⟩ := asgn_go l g p e
    exact o _ F2 H1 g2
end
end U
end part_U26

section part_U27
set_option Elab.async false
set_option linter.all false
set_option maxRecDepth 100000
set_option maxHeartbeats 1000000
/-! U27: defs of the text as they stand behind the top. -/
namespace U
open PySem PyProof.Rows L2 NdefX StX
/-- where a def keeps its defaults -/
def DfV (K : PySem.W.Frag) (dV : Value) (dvs : List V) : Prop := (dvs = [] ∧ dV = .none) ∨ (dvs ≠ [] ∧ ∃ (T : Addr) (o : Obj) (its : List Value) (j : Nat), dV = .ref T ∧ K.lookup T = some o ∧ o.data = .seq its.toArray j ∧ Vals dvs its)
/-- a def of the text, its defaults dvs -/
structure DefAt (K : PySem.W.Frag) (f : Addr) (name qual : Str) (st : Stmt) (dvs : List V) (fd : FuncData) : Prop where
  ex : ∃ (oc : Value) (od : Option Addr) (dV kV doc pm : Value) (an : Option Addr) (cdv ct : Value) (osl : Array (Option Value)), fd = PySem.W.fnOf name qual (defArgs st) (defBody st) (defScope st) dV kV doc pm an cdv ct ∧ K.lookup f = some ⟨oc, od, .func fd, osl⟩ ∧ PySem.W.codeIn K cdv qual = true ∧ DfV K dV dvs
  kp : PySem.W.keepIn K (.ref f) = true
section
variable {G : Glob} {P : Program} {w : World} {K : PySem.W.Frag} {mg : Str → Option Value} {base : Heap} {k m : Nat} {f : Addr} {name qual : Str} {st : Stmt} {dvs : List V} {fd : FuncData} {N ps : List Str} {fb : SV}
theorem DefAt.fnU (D : DefAt K f name qual st dvs fd) (S : FnScope N ps (defScope st)) (hm : N.length = ps.length + m)
    (hbody : ∀ (cdv : Value) (A : Around) (outer : List Env) (s : Shared) (H : Hp) (E : XK), Room k (A.deeper (envOfC qual (defScope st) s.heap.objs.size f cdv)) → (A.deeper (envOfC qual (defScope st) s.heap.objs.size f cdv)).guards = some [] →
      SimB G (cxOf (L2.CX P w) P w K mg base N qual (defScope st) f cdv A outer s H E) (WE E) (defBody st) fb) : FnU G P w K mg base (k + 1) f fd ps (bodyV m fb) := by
  obtain ⟨oc, od, dV, kV, doc, pm, an, cdv, ct, osl, rfl, lk, hcd, _⟩ := D.ex
  exact fnU_of lk hcd S hm (hbody cdv)
/-- all of it is written -/
theorem DefAt.bind0 {n : Nat} {ks : List Str} {pk : Pk} (D : DefAt K f name qual st [] fd) (hl : pk.length = ps.length := by rfl)
    (h : ∀ (kV doc pm : Value) (an : Option Addr) (cdv ct : Value) (us ws cs : List Value), us.length = n → ws.length = ks.length → pickL pk (us ++ ws) [] = some cs → bindArgs (PySem.W.fnOf name qual (defArgs st) (defBody st) (defScope st) .none kV doc pm an cdv ct) ⟨us, ks.zip ws⟩ = pure (ps.zip cs)) : BindU K fd ps n ks pk [] := by
  obtain ⟨oc, od, dV, kV, doc, pm, an, cdv, ct, osl, rfl, lk, hcd, hd⟩ := D.ex
  rcases hd with ⟨_, rfl⟩ | ⟨z, _⟩
  · exact ⟨⟨[], .nil, fun s us ws cs _ h1 h2 h3 => .of_eq (h kV doc pm an cdv ct us ws cs h1 h2 h3)⟩, hl⟩
  · exact absurd rfl z
/-- .. or fills up by defaults -/
theorem DefAt.bindD {n : Nat} {ks : List Str} {pk : Pk} (D : DefAt K f name qual st dvs fd) (hne : dvs ≠ []) (hl : pk.length = ps.length := by rfl)
    (h : ∀ (T : Addr) (kV doc pm : Value) (an : Option Addr) (cdv ct : Value) (us ws its cs : List Value), us.length = n → ws.length = ks.length → its.length = dvs.length → pickL pk (us ++ ws) its = some cs →
      ∃ k : Option (Array Value) → Sem (List (Str × Value)), bindArgs (PySem.W.fnOf name qual (defArgs st) (defBody st) (defScope st) (.ref T) kV doc pm an cdv ct) ⟨us, ks.zip ws⟩ = seqItems? (.ref T) >>= k ∧ k (some its.toArray) = pure (ps.zip cs)) : BindU K fd ps n ks pk dvs := by
  obtain ⟨oc, od, dV, kV, doc, pm, an, cdv, ct, osl, rfl, lk, hcd, hd⟩ := D.ex
  rcases hd with ⟨z, _⟩ | ⟨_, T, o, its, j, rfl, lT, oT, rT⟩
  · exact absurd z hne
  · refine ⟨⟨its, rT, fun s us ws cs X h1 h2 h3 => ?_⟩, hl⟩
    obtain ⟨k, e1, e2⟩ := h T kV doc pm an cdv ct us ws its cs h1 h2 rT.length.symm h3
    exact PySem.W.binds_K X rfl lT oT e1 e2
theorem DefAt.mk0 {oc : Value} {od an : Option Addr} {osl : Array (Option Value)} {kV doc pm cdv ct : Value} (l : K.lookup f = some ⟨oc, od, .func (PySem.W.fnOf name qual (defArgs st) (defBody st) (defScope st) .none kV doc pm an cdv ct), osl⟩) (c : PySem.W.codeIn K cdv qual = true) (k : PySem.W.keepIn K (.ref f) = true) :
    DefAt K f name qual st [] (PySem.W.fnOf name qual (defArgs st) (defBody st) (defScope st) .none kV doc pm an cdv ct) := ⟨⟨oc, od, .none, kV, doc, pm, an, cdv, ct, osl, rfl, l, c, .inl ⟨rfl, rfl⟩⟩, k⟩
theorem DefAt.mkD {oc : Value} {od an : Option Addr} {osl : Array (Option Value)} {kV doc pm cdv ct : Value} {T : Addr} {o : Obj} {its : List Value} {j : Nat} (l : K.lookup f = some ⟨oc, od, .func (PySem.W.fnOf name qual (defArgs st) (defBody st) (defScope st) (.ref T) kV doc pm an cdv ct), osl⟩) (c : PySem.W.codeIn K cdv qual = true) (k : PySem.W.keepIn K (.ref f) = true)
    (lT : K.lookup T = some o) (oT : o.data = .seq its.toArray j) (r : Vals dvs its) (hne : dvs ≠ []) :
    DefAt K f name qual st dvs (PySem.W.fnOf name qual (defArgs st) (defBody st) (defScope st) (.ref T) kV doc pm an cdv ct) := ⟨⟨oc, od, .ref T, kV, doc, pm, an, cdv, ct, osl, rfl, l, c, .inr ⟨hne, T, o, its, j, rfl, lT, oT, r⟩⟩, k⟩
end
section
variable {P : Program} {w : World} {K : PySem.W.Frag} {mg : Str → Option Value} {base : Heap} {A : Around} {outer : List Env} {s : Shared} {H : Hp} {E : XK} {N : List Str} {qual : Str} {sc : Scope} {f : Addr} {cdv : Value}
/-- what may leave a def's body is taken -/
theorem takesB : Takes (cxOf (L2.CX P w) P w K mg base N qual sc f cdv A outer s H E) (WE E) := takes_of rfl rfl rfl rfl
theorem passB : PassesOwn (model P w) (A.deeper (envOfC qual sc s.heap.objs.size f cdv)) (envOfC qual sc s.heap.objs.size f cdv) (cxOf (L2.CX P w) P w K mg base N qual sc f cdv A outer s H E).xe := passes_of rfl
end
theorem defs0 {G : Glob} {K : PySem.W.Frag} : ∀ F, RepL G K F [] [] := fun F => repL_mk0
/-! ### words -/
theorem all0 {P : Nat → Prop} : ∀ x ∈ ([] : List Nat), P x := fun x h => by cases h
theorem all1 {P : Nat → Prop} {c : Nat} {l : List Nat} (h : P c) (r : ∀ x ∈ l, P x) : ∀ x ∈ c :: l, P x := fun x hx => by
  rcases List.mem_cons.mp hx with rfl | hx
  · exact h
  · exact r x hx
/-- which classes a clause takes -/
def lkB : List (Nat × Bool) → Nat → Option Bool
  | [], _ => none
  | (i, b) :: r, k => if i = k then some b else lkB r k
def AllE (G : Glob) (K : PySem.W.Frag) (cv : Value) : List (Nat × Bool) → Prop
  | [] => True
  | e :: r => PySem.W.exmOne K (.ref (G.ca e.1)) cv = some e.2 ∧ AllE G K cv r
theorem lkB_ok {G : Glob} {K : PySem.W.Frag} {cv : Value} : ∀ {tab : List (Nat × Bool)}, AllE G K cv tab → ∀ k b, lkB tab k = some b → PySem.W.exmOne K (.ref (G.ca k)) cv = some b
  | [], _, k, b, h => by cases h
  | (i, c) :: r, a, k, b, h => by
    unfold lkB at h
    split at h
    · rename_i hi
      subst hi
      cases h
      exact a.1
    · exact lkB_ok a.2 k b h
def AllT (G : Glob) (K : PySem.W.Frag) : List (Tag × Tag × Bool) → Prop
  | [] => True
  | e :: r => PySem.W.kitOne K (tagV G e.1) (tagV G e.2.1) = some e.2.2 ∧ AllT G K r
theorem AllT.mem {G : Glob} {K : PySem.W.Frag} : ∀ {tab : List (Tag × Tag × Bool)}, AllT G K tab → ∀ e ∈ tab, PySem.W.kitOne K (tagV G e.1) (tagV G e.2.1) = some e.2.2
  | [], _, e, h => by cases h
  | x :: r, a, e, h => by
    rcases List.mem_cons.mp h with rfl | h
    · exact a.1
    · exact AllT.mem a.2 e h
/-- a table without instances -/
def noCl : List (Tag × Tag × Bool) → Bool
  | [] => true
  | (.ty _, _, _) :: r => noCl r
  | (.cl _, _, _) :: _ => false
theorem noCl_ok : ∀ {tab : List (Tag × Tag × Bool)}, noCl tab = true → ∀ e ∈ tab, ∀ i, e.1 ≠ .cl i
  | [], _, e, h => by cases h
  | (.ty n, b, c) :: r, a, e, h => by
    rcases List.mem_cons.mp h with rfl | h
    · exact fun i z => by cases z
    · exact noCl_ok (tab := r) a e h
theorem tabOk0 {G : Glob} {K : PySem.W.Frag} {tab : List (Tag × Tag × Bool)} (h : AllT G K tab) (n : noCl tab = true) : TabOk G K tab := ⟨h.mem, fun e he i z => absurd z (noCl_ok n e he i)⟩
section
variable {G : Glob} {X : Cx} {W : WX}
theorem se_globE {x : Str} {d : D} {v : V} {pos : Pos} (h : ∃ u, X.mg x = some u ∧ RelV v u) (hr : ∀ F, Rep G X.K F d v) (hg : Gl X x := by rfl) (hd : (x == ("__debug__" : Str)) = false := by decide) : SimE G X W (.Name x pos) (eK d) := by
  obtain ⟨u, hm, r⟩ := h
  exact se_glob hm r hr hg hd
theorem pgn {i : Nat} {x : Str} {p : Pos} (hN : X.N.Nodup) (hi : X.N[i]? = some x := by rfl) (hx : Loc X.env.scope x := by first | exact .inl rfl | exact .inr rfl) (hf : X.fn x = true ∨ X.env.scope.names.lookup x = some .local := by first | exact .inl rfl | exact .inr rfl | assumption) : PG X (.Name x p) (gName i) := pg_name hN hi hx hf
end
end U
end part_U27

section part_U28
set_option Elab.async false
set_option linter.all false
set_option maxRecDepth 100000
set_option maxHeartbeats 1000000
/-! U28: words for a law's walk. -/
namespace U
open PySem PyProof.Rows L2 NdefX StX
section
variable {G : Glob} {K : PySem.W.Frag} {P : Program} {w : World} {mg : Str → Option Value} {base : Heap}
theorem pvv {X : Cx} (i : Nat) {x : Str} {pos : Pos} (hN : X.N[i]? = some x := by rfl) (hv : Vis X.env.scope x := by first | exact Or.inl rfl | exact Or.inr (Or.inl rfl) | exact Or.inr (Or.inr rfl)) (hd : (x == ("__debug__" : Str)) = false := by decide)
    (hcd : (x == ("__classdict__" : Str)) = false := by decide) : PE X (.Name x pos) (tVar i) := pe_var hN hv hd hcd
theorem tx0 : ∀ e ∈ ([] : List (Tag × Tag × Bool)), ∀ j, e.1 = .cl j → ExT K (G.ca j) := fun e h => by cases h
theorem tx1 {c : Nat} {u : Tag} {b : Bool} {l : List (Tag × Tag × Bool)} (h : ExT K (G.ca c)) (r : ∀ e ∈ l, ∀ j, e.1 = .cl j → ExT K (G.ca j)) : ∀ e ∈ (Tag.cl c, u, b) :: l, ∀ j, e.1 = .cl j → ExT K (G.ca j) := fun e he j hj => by
  rcases List.mem_cons.mp he with rfl | he
  · cases hj; exact h
  · exact r e he j hj
theorem tk0 : ∀ e ∈ ([] : List (Tag × Tag × Bool)), PySem.W.kitOne K (tagV G e.1) (tagV G e.2.1) = some e.2.2 := fun e h => by cases h
theorem tk1 {t u : Tag} {b : Bool} {l : List (Tag × Tag × Bool)} (h : PySem.W.kitOne K (tagV G t) (tagV G u) = some b) (r : ∀ e ∈ l, PySem.W.kitOne K (tagV G e.1) (tagV G e.2.1) = some e.2.2) : ∀ e ∈ (t, u, b) :: l, PySem.W.kitOne K (tagV G e.1) (tagV G e.2.1) = some e.2.2 := fun e he => by
  rcases List.mem_cons.mp he with rfl | he
  · exact h
  · exact r e he
theorem rI0_add : Val2 G K rAdd gAddI := v_addI
theorem rI0_sub : Val2 G K rSub gSub := val_I0 (f := fun i j => .int (i - j)) (fun i j => .int (i - j)) (fun d e r h => by
  unfold gSub at h
  split at h
  · rename_i i j
    cases h
    exact ⟨i, j, rfl, rfl, rfl⟩
  · cases h) fun F i j => by unfold Rep; rfl
theorem rI0_add' : Val2 G K rAdd gAddI := rI0_add
/-- a method of a class that says super() -/
theorem sup_binds {name qual : Str} {st : Stmt} {f D cc cda : Addr} {fd : FuncData} {ps : List Str} (T : SupDef P K mg name qual (defArgs st) (defBody st) (defScope st) f D cc cda fd)
    (h : ∀ (kV doc pm : Value) (an : Option Addr) (ct : Value) (us : List Value), us.length = ps.length → bindArgs (PySem.W.ksFn name qual (defArgs st) (defBody st) (defScope st) .none kV doc pm an (.ref cda) ct cc) ⟨us, []⟩ = pure (ps.zip us)) : Binds K fd ps [] := by
  obtain ⟨oc, od, kV, doc, pm, an, ct, osl, rfl, lk⟩ := T.ex
  exact .all (h kV doc pm an ct)
theorem SupDef.mk0 {name qual : Str} {st : Stmt} {f D cc cda : Addr} {oc : Value} {od an : Option Addr} {osl : Array (Option Value)} {kV doc pm ct : Value} {ccl : Value} {cdd : Option Addr} {vs : Array Value} {ccs : Array (Option Value)} {file : Str} {tf : Tok} {cl : Value} {cld : Option Addr} {csl : Array (Option Value)} {cdD : ClassData}
    (l : K.lookup f = some ⟨oc, od, .func (PySem.W.ksFn name qual (defArgs st) (defBody st) (defScope st) .none kV doc pm an (.ref cda) ct cc), osl⟩) (c : PySem.W.codeIn K (.ref cda) qual = true) (l2 : K.lookup cda = some ⟨ccl, cdd, .fields vs, ccs⟩) (hv : vs[2]? = some (.str file tf)) (hf : ((P.main.file : Str) == file) = true)
    (l3 : K.lookup cc = some ⟨cl, cld, .cell (some (.ref D)), csl⟩) (l4 : PySem.W.clsIn K D = some cdD) (top : (P.main.scope.names.lookup ("super" : Str)).isSome = false) (ns : mg "super" = none) (oq : PySem.W.nsIn K cStatics "thirdparty.any" = some none) :
    SupDef P K mg name qual (defArgs st) (defBody st) (defScope st) f D cc cda (PySem.W.ksFn name qual (defArgs st) (defBody st) (defScope st) .none kV doc pm an (.ref cda) ct cc) :=
  ⟨⟨oc, od, kV, doc, pm, an, ct, osl, rfl, l⟩, c, ⟨ccl, cdd, vs, ccs, file, tf, l2, hv, hf⟩, ⟨cl, cld, csl, l3⟩, ⟨cdD, l4⟩, top, ns, oq⟩
/-- an own error's class, read -/
def OexO (C : Addr) (ob : Obj) : Prop := ∃ nm q N bs bm sn sub ab col dd k0 k1 k2 k3 k5, ob = excClassObj nm q C N bs bm true sn sub ab col dd k0 k1 k2 k3 k5 "ValueError.__new__" ∧ PySem.HandSPX.refsVE bm = true
theorem oex_of {C : Addr} {ob : Obj} (h : K.lookup C = some ob) (e : OexO C ob) : ∃ nm q N bs bm sn sub ab col dd k0 k1 k2 k3 k5, K.lookup C = some (excClassObj nm q C N bs bm true sn sub ab col dd k0 k1 k2 k3 k5 "ValueError.__new__") ∧ PySem.HandSPX.refsVE bm = true := by
  obtain ⟨nm, q, N, bs, bm, sn, sub, ab, col, dd, k0, k1, k2, k3, k5, rfl, r⟩ := e
  exact ⟨nm, q, N, bs, bm, sn, sub, ab, col, dd, k0, k1, k2, k3, k5, h, r⟩
theorem oexO_of {C N : Addr} {ob : Obj} {nm q : Str} {bs bm : List Value} {sn : List Str} {sub : List Value} {ab : Bool} {col : Option Bool} {dd : Option Addr} {k0 k1 k2 k3 k5 : Option Value} (e : ob = excClassObj nm q C N bs bm true sn sub ab col dd k0 k1 k2 k3 k5 "ValueError.__new__") (r : PySem.HandSPX.refsVE bm = true) : OexO C ob :=
  ⟨nm, q, N, bs, bm, sn, sub, ab, col, dd, k0, k1, k2, k3, k5, e, r⟩
end
end U
end part_U28

section part_U29
set_option Elab.async false
set_option linter.all false
set_option maxRecDepth 100000
set_option maxHeartbeats 1000000
/-! U29: how the mirror is computed: one equation a step (printed by mk29.py). -/
namespace U
open PySem PyProof.Rows L2
section
variable {α β : Type} {ρ ρ1 ρ2 ρ0 : Ro} {r r1 r2 : Rv} {e : D} {fa fb fc fe fo : EV} {as bs : AV} {t u : TV} {f g : SV} {i j : Nat}
@[simp] theorem x_ok {a : α} {k : α → Ro → XR β} : (XR.ok a ρ).bind k = k a ρ := Eq.trans rfl rfl
@[simp] theorem x_ex {k : α → Ro → XR β} : (XR.ex e ρ).bind k = XR.ex e ρ := Eq.trans rfl rfl
@[simp] theorem x_no {k : α → Ro → XR β} : (XR.no).bind k = XR.no := Eq.trans rfl rfl
@[simp] theorem y_ok {a : α} {k : α → Ro → SR} : (XR.ok a ρ).then k = k a ρ := Eq.trans rfl rfl
@[simp] theorem y_ex {k : α → Ro → SR} : (XR.ex e ρ).then k = SR.ex e ρ := Eq.trans rfl rfl
@[simp] theorem y_no {k : α → Ro → SR} : (XR.no).then k = SR.no := Eq.trans rfl rfl
@[simp] theorem z_nx {k : SV} : (SR.nx ρ).seq k = k ρ := Eq.trans rfl rfl
@[simp] theorem z_rt {k : SV} : (SR.rt r ρ).seq k = SR.rt r ρ := Eq.trans rfl rfl
@[simp] theorem z_ex {k : SV} : (SR.ex e ρ).seq k = SR.ex e ρ := Eq.trans rfl rfl
@[simp] theorem z_bk {k : SV} : (SR.bk ρ).seq k = SR.bk ρ := Eq.trans rfl rfl
@[simp] theorem z_ct {k : SV} : (SR.ct ρ).seq k = SR.ct ρ := Eq.trans rfl rfl
@[simp] theorem z_no {k : SV} : SR.no.seq k = SR.no := Eq.trans rfl rfl
def k_var (i : Nat) (ρ : Ro) : Option (Option Sl) → XR Rv
  | some (some (.val _ d)) => .ok (.v d) ρ
  | some (some (.own _ _)) => .ok (.bo i) ρ
  | some (some (.lent _ _)) => .ok (.bo i) ρ
  | _ => .no
@[simp] theorem r_var  : eVar i ρ = k_var i ρ ρ[i]? := by unfold eVar k_var; rfl
@[simp] theorem r_var1 {p : Bool} {d : D} : k_var i ρ (some (some (.val p d))) = .ok (.v d) ρ := Eq.trans rfl rfl
@[simp] theorem r_var2 {p : Bool} {d : D} : k_var i ρ (some (some (.own p d))) = .ok (.bo i) ρ := Eq.trans rfl rfl
@[simp] theorem r_var3 {p : Bool} {d : D} : k_var i ρ (some (some (.lent p d))) = .ok (.bo i) ρ := Eq.trans rfl rfl
@[simp] theorem r_k {d : D} : eK d ρ = .ok (.v d) ρ := Eq.trans rfl rfl
def slD : Option (Option Sl) → Option D
  | some (some (.val _ d)) => some d
  | some (some (.own _ d)) => some d
  | some (some (.lent _ d)) => some d
  | _ => none
@[simp] theorem con_v {d : D} : con ρ (.v d) = some d := Eq.trans rfl rfl
@[simp] theorem con_fr {d : D} : con ρ (.fr d) = some d := Eq.trans rfl rfl
@[simp] theorem con_bo  : con ρ (.bo i) = slD ρ[i]? := by unfold slD con; rfl
@[simp] theorem sl_1 {p : Bool} {d : D} : slD (some (some (.val p d))) = some d := Eq.trans rfl rfl
@[simp] theorem sl_2 {p : Bool} {d : D} : slD (some (some (.own p d))) = some d := Eq.trans rfl rfl
@[simp] theorem sl_3 {p : Bool} {d : D} : slD (some (some (.lent p d))) = some d := Eq.trans rfl rfl
def ap1 (g : D → Option Rv) : Option D → Option Rv
  | some a => g a
  | none => none
def ap2 (g : D → D → Option Rv) : Option D → Option D → Option Rv
  | some a, some b => g a b
  | _, _ => none
@[simp] theorem ap1_s {g : D → Option Rv} {a : D} : ap1 g (some a) = g a := Eq.trans rfl rfl
@[simp] theorem ap2_s {g : D → D → Option Rv} {a b : D} : ap2 g (some a) (some b) = g a b := Eq.trans rfl rfl
@[simp] theorem ret_s  : U.ret ρ (some r) = .ok r ρ := Eq.trans rfl rfl
def k_op2b (g : D → D → Option Rv) (r1 r2 : Rv) (ρ : Ro) : XR Rv := U.ret ρ (ap2 g (con ρ r1) (con ρ r2))
def k_op2 (g : D → D → Option Rv) (fb : EV) (r1 : Rv) (ρ : Ro) : XR Rv := (fb ρ).bind (k_op2b g r1)
theorem ap2_eq {g : D → D → Option Rv} : (cons2 ρ r1 r2).bind (fun p => g p.1 p.2) = ap2 g (con ρ r1) (con ρ r2) := by
  unfold cons2
  cases con ρ r1 <;> cases con ρ r2 <;> rfl
@[simp] theorem r_op2 {g : D → D → Option Rv} : eOp2 g fa fb ρ = (fa ρ).bind (k_op2 g fb) := by
  unfold eOp2 k_op2 k_op2b
  simp only [ap2_eq]
@[simp] theorem r_op2a {g : D → D → Option Rv} : k_op2 g fb r ρ = (fb ρ).bind (k_op2b g r) := Eq.trans rfl rfl
@[simp] theorem r_op2b {g : D → D → Option Rv} : k_op2b g r1 r2 ρ = U.ret ρ (ap2 g (con ρ r1) (con ρ r2)) := Eq.trans rfl rfl
def k_op1 (g : D → Option Rv) (r1 : Rv) (ρ : Ro) : XR Rv := U.ret ρ (ap1 g (con ρ r1))
theorem ap1_eq {g : D → Option Rv} {o : Option D} : o.bind g = ap1 g o := by cases o <;> rfl
@[simp] theorem r_op1 {g : D → Option Rv} : eOp1 g fa ρ = (fa ρ).bind (k_op1 g) := by
  unfold eOp1 k_op1
  simp only [ap1_eq]
@[simp] theorem r_op1a {g : D → Option Rv} : k_op1 g r ρ = U.ret ρ (ap1 g (con ρ r)) := Eq.trans rfl rfl
def tru? : Option D → Option Bool
  | some d => truD d
  | none => none
@[simp] theorem tru_s {d : D} : tru? (some d) = truD d := Eq.trans rfl rfl
theorem tru_eq {o : Option D} : o.bind truD = tru? o := by cases o <;> rfl
def k_andb (fb : EV) (r : Rv) (ρ : Ro) : Option Bool → XR Rv
  | some true => fb ρ
  | some false => .ok r ρ
  | none => .no
def k_and (fb : EV) (r : Rv) (ρ : Ro) : XR Rv := k_andb fb r ρ (tru? (con ρ r))
@[simp] theorem r_and  : eAnd fa fb ρ = (fa ρ).bind (k_and fb) := by
  unfold eAnd k_and k_andb
  simp only [tru_eq]
  all_goals rfl
@[simp] theorem r_anda  : k_and fb r ρ = k_andb fb r ρ (tru? (con ρ r)) := Eq.trans rfl rfl
@[simp] theorem r_andT  : k_andb fb r ρ (some true) = fb ρ := Eq.trans rfl rfl
@[simp] theorem r_andF  : k_andb fb r ρ (some false) = .ok r ρ := Eq.trans rfl rfl
def k_orb (fb : EV) (r : Rv) (ρ : Ro) : Option Bool → XR Rv
  | some true => .ok r ρ
  | some false => fb ρ
  | none => .no
def k_or (fb : EV) (r : Rv) (ρ : Ro) : XR Rv := k_orb fb r ρ (tru? (con ρ r))
@[simp] theorem r_or  : eOr fa fb ρ = (fa ρ).bind (k_or fb) := by
  unfold eOr k_or k_orb
  simp only [tru_eq]
  all_goals rfl
@[simp] theorem r_ora  : k_or fb r ρ = k_orb fb r ρ (tru? (con ρ r)) := Eq.trans rfl rfl
@[simp] theorem r_orT  : k_orb fb r ρ (some true) = .ok r ρ := Eq.trans rfl rfl
@[simp] theorem r_orF  : k_orb fb r ρ (some false) = fb ρ := Eq.trans rfl rfl
def k_notb (ρ : Ro) : Option Bool → XR Rv
  | some b => .ok (.v (.bl (!b))) ρ
  | none => .no
def k_not (r : Rv) (ρ : Ro) : XR Rv := k_notb ρ (tru? (con ρ r))
@[simp] theorem r_not  : eNot fa ρ = (fa ρ).bind k_not := by
  unfold eNot k_not k_notb
  simp only [tru_eq]
  all_goals rfl
@[simp] theorem r_nota  : k_not r ρ = k_notb ρ (tru? (con ρ r)) := Eq.trans rfl rfl
@[simp] theorem r_notb {b : Bool} : k_notb ρ (some b) = .ok (.v (.bl (!b))) ρ := Eq.trans rfl rfl
def k_if (fa fb : EV) (b : Bool) (ρ : Ro) : XR Rv := if b = true then fa ρ else fb ρ
@[simp] theorem r_if  : eIf t fa fb ρ = (t ρ).bind (k_if fa fb) := Eq.trans rfl rfl
@[simp] theorem r_ifT  : k_if fa fb true ρ = fa ρ := Eq.trans rfl rfl
@[simp] theorem r_ifF  : k_if fa fb false ρ = fb ρ := Eq.trans rfl rfl
def k_chc (g : D → D → Option Rv) (r2 r3 : Rv) (ρ : Ro) : XR Rv := U.ret ρ (ap2 g (con ρ r2) (con ρ r3))
def k_chd (g' : D → D → Option Rv) (fc : EV) (r2 : Rv) (ρ : Ro) : Option Rv → XR Rv
  | some (.v (.bl true)) => (fc ρ).bind (k_chc g' r2)
  | some (.v (.bl false)) => .ok (.v (.bl false)) ρ
  | _ => .no
def k_chb (g g' : D → D → Option Rv) (fc : EV) (r1 r2 : Rv) (ρ : Ro) : XR Rv := k_chd g' fc r2 ρ (ap2 g (con ρ r1) (con ρ r2))
def k_ch (g g' : D → D → Option Rv) (fb fc : EV) (r1 : Rv) (ρ : Ro) : XR Rv := (fb ρ).bind (k_chb g g' fc r1)
@[simp] theorem r_ch {g g' : D → D → Option Rv} : eChain g g' fa fb fc ρ = (fa ρ).bind (k_ch g g' fb fc) := by
  unfold eChain k_ch k_chb k_chd k_chc
  simp only [ap2_eq]
  all_goals rfl
@[simp] theorem r_cha {g g' : D → D → Option Rv} : k_ch g g' fb fc r ρ = (fb ρ).bind (k_chb g g' fc r) := Eq.trans rfl rfl
@[simp] theorem r_chb {g g' : D → D → Option Rv} : k_chb g g' fc r1 r2 ρ = k_chd g' fc r2 ρ (ap2 g (con ρ r1) (con ρ r2)) := Eq.trans rfl rfl
@[simp] theorem r_chT {g' : D → D → Option Rv} : k_chd g' fc r ρ (some (.v (.bl true))) = (fc ρ).bind (k_chc g' r) := Eq.trans rfl rfl
@[simp] theorem r_chF {g' : D → D → Option Rv} : k_chd g' fc r ρ (some (.v (.bl false))) = .ok (.v (.bl false)) ρ := Eq.trans rfl rfl
@[simp] theorem r_chc {g' : D → D → Option Rv} : k_chc g' r1 r2 ρ = U.ret ρ (ap2 g' (con ρ r1) (con ρ r2)) := Eq.trans rfl rfl
@[simp] theorem retB_s {b : Bool} : retB ρ (some b) = .ok b ρ := Eq.trans rfl rfl
def k_tru (r : Rv) (ρ : Ro) : XR Bool := retB ρ (tru? (con ρ r))
@[simp] theorem r_tru  : tTru fa ρ = (fa ρ).bind k_tru := by
  unfold tTru k_tru
  simp only [tru_eq]
@[simp] theorem r_trua  : k_tru r ρ = retB ρ (tru? (con ρ r)) := Eq.trans rfl rfl
def k_val (r : Rv) (ρ : Ro) : XR Bool := retB ρ (blOf (con ρ r))
@[simp] theorem r_val  : tVal fa ρ = (fa ρ).bind k_val := Eq.trans rfl rfl
@[simp] theorem r_vala  : k_val r ρ = retB ρ (blOf (con ρ r)) := Eq.trans rfl rfl
@[simp] theorem bl_s {b : Bool} : blOf (some (.bl b)) = some b := Eq.trans rfl rfl
def k_tnot (b : Bool) (ρ : Ro) : XR Bool := .ok (!b) ρ
@[simp] theorem r_tnot  : tNotU t ρ = (t ρ).bind k_tnot := Eq.trans rfl rfl
@[simp] theorem r_tnota {b : Bool} : k_tnot b ρ = .ok (!b) ρ := Eq.trans rfl rfl
def k_tand (u : TV) (b : Bool) (ρ : Ro) : XR Bool := if b = true then u ρ else .ok false ρ
@[simp] theorem r_tand  : tAndU t u ρ = (t ρ).bind (k_tand u) := Eq.trans rfl rfl
@[simp] theorem r_tandT  : k_tand u true ρ = u ρ := Eq.trans rfl rfl
@[simp] theorem r_tandF  : k_tand u false ρ = .ok false ρ := Eq.trans rfl rfl
def k_tor (u : TV) (b : Bool) (ρ : Ro) : XR Bool := if b = true then .ok true ρ else u ρ
@[simp] theorem r_tor  : tOrU t u ρ = (t ρ).bind (k_tor u) := Eq.trans rfl rfl
@[simp] theorem r_torT  : k_tor u true ρ = .ok true ρ := Eq.trans rfl rfl
@[simp] theorem r_torF  : k_tor u false ρ = u ρ := Eq.trans rfl rfl
@[simp] theorem r_tyes  : tYesU ρ = .ok true ρ := Eq.trans rfl rfl
@[simp] theorem r_nil  : aNil ρ = .ok [] ρ := Eq.trans rfl rfl
def k_consb (r : Rv) (rs : List Rv) (ρ : Ro) : XR (List Rv) := .ok (r :: rs) ρ
def k_cons (as : AV) (r : Rv) (ρ : Ro) : XR (List Rv) := (as ρ).bind (k_consb r)
@[simp] theorem r_cons  : aCons fa as ρ = (fa ρ).bind (k_cons as) := Eq.trans rfl rfl
@[simp] theorem r_consa  : k_cons as r ρ = (as ρ).bind (k_consb r) := Eq.trans rfl rfl
@[simp] theorem r_consb {rs : List Rv} : k_consb r rs ρ = .ok (r :: rs) ρ := Eq.trans rfl rfl
def k_starc (ds : List D) (rs : List Rv) (ρ : Ro) : XR (List Rv) := .ok (ds.map .v ++ rs) ρ
def k_starb (as : AV) (ρ : Ro) : Option (List D) → XR (List Rv)
  | some ds => (as ρ).bind (k_starc ds)
  | none => .no
def seq? : Option D → Option (List D)
  | some d => seqD d
  | none => none
@[simp] theorem seq_s {d : D} : seq? (some d) = seqD d := Eq.trans rfl rfl
def k_star (as : AV) (r : Rv) (ρ : Ro) : XR (List Rv) := k_starb as ρ (seq? (con ρ r))
@[simp] theorem r_star  : aStar fa as ρ = (fa ρ).bind (k_star as) := by
  unfold aStar k_star k_starb k_starc
  congr 1; funext r ρ1
  cases con ρ1 r <;> rfl
@[simp] theorem r_stara  : k_star as r ρ = k_starb as ρ (seq? (con ρ r)) := Eq.trans rfl rfl
@[simp] theorem r_starb {ds : List D} : k_starb as ρ (some ds) = (as ρ).bind (k_starc ds) := Eq.trans rfl rfl
@[simp] theorem r_starc {ds : List D} {rs : List Rv} : k_starc ds rs ρ = .ok (ds.map .v ++ rs) ρ := Eq.trans rfl rfl
def k_tupb : Option (List D × Ro) → XR Rv
  | some (ds, ρ) => if ds.length ≤ big then .ok (.v (.tup ds)) ρ else .no
  | none => .no
def k_tup (rs : List Rv) (ρ : Ro) : XR Rv := k_tupb (escAll rs ρ)
@[simp] theorem r_tup  : eTup as ρ = (as ρ).bind k_tup := by unfold eTup k_tup k_tupb; rfl
@[simp] theorem r_tupa {rs : List Rv} : k_tup rs ρ = k_tupb (escAll rs ρ) := Eq.trans rfl rfl
@[simp] theorem r_tupb {ds : List D} : k_tupb (some (ds, ρ)) = if ds.length ≤ big then .ok (.v (.tup ds)) ρ else .no := Eq.trans rfl rfl
def k_lstb : Option (List D × Ro) → XR Rv
  | some (ds, ρ) => if ds.length ≤ big then .ok (.fr (.lst ds)) ρ else .no
  | none => .no
def k_lst (rs : List Rv) (ρ : Ro) : XR Rv := k_lstb (escAll rs ρ)
@[simp] theorem r_lst  : eLst as ρ = (as ρ).bind k_lst := by unfold eLst k_lst k_lstb; rfl
@[simp] theorem r_lsta {rs : List Rv} : k_lst rs ρ = k_lstb (escAll rs ρ) := Eq.trans rfl rfl
@[simp] theorem r_lstb {ds : List D} : k_lstb (some (ds, ρ)) = if ds.length ≤ big then .ok (.fr (.lst ds)) ρ else .no := Eq.trans rfl rfl
def k_esc (i : Nat) (ρ : Ro) : Option (Option Sl) → Option (D × Ro)
  | some (some (.val _ d)) => some (d, ρ)
  | some (some (.own p d)) => some (d, ρ.set i (some (.val p d)))
  | _ => none
@[simp] theorem esc_v {d : D} : esc (.v d) ρ = some (d, ρ) := Eq.trans rfl rfl
@[simp] theorem esc_fr {d : D} : esc (.fr d) ρ = some (d, ρ) := Eq.trans rfl rfl
@[simp] theorem esc_bo  : esc (.bo i) ρ = k_esc i ρ ρ[i]? := by unfold esc k_esc; rfl
@[simp] theorem esc_1 {p : Bool} {d : D} : k_esc i ρ (some (some (.val p d))) = some (d, ρ) := Eq.trans rfl rfl
@[simp] theorem esc_2 {p : Bool} {d : D} : k_esc i ρ (some (some (.own p d))) = some (d, ρ.set i (some (.val p d))) := Eq.trans rfl rfl
@[simp] theorem escA_nil  : escAll [] ρ = some ([], ρ) := Eq.trans rfl rfl
def k_escb (d : D) : Option (List D × Ro) → Option (List D × Ro)
  | some (ds, ρ) => some (d :: ds, ρ)
  | none => none
def k_esca (rs : List Rv) : Option (D × Ro) → Option (List D × Ro)
  | some (d, ρ) => k_escb d (escAll rs ρ)
  | none => none
@[simp] theorem escA_cons {rs : List Rv} : escAll (r :: rs) ρ = k_esca rs (esc r ρ) := by
  rw [escAll]
  unfold k_esca k_escb
  cases esc r ρ with
  | none => rfl
  | some q => obtain ⟨d, ρ1⟩ := q; dsimp only; all_goals cases escAll rs ρ1 <;> rfl
@[simp] theorem escA_a {rs : List Rv} {d : D} : k_esca rs (some (d, ρ)) = k_escb d (escAll rs ρ) := Eq.trans rfl rfl
@[simp] theorem escA_b {ds : List D} {d : D} : k_escb d (some (ds, ρ)) = some (d :: ds, ρ) := Eq.trans rfl rfl
@[simp] theorem nx_1  : ((none : Option Nat) != some i) = true := Eq.trans rfl rfl
@[simp] theorem nx_2  : ((some i : Option Nat) != some j) = !(i == j) := Eq.trans rfl rfl
def k_escs (ds : List D) : Option (List D × Ro) → Option (List D × Ro)
  | some (es, ρ) => some (ds ++ es, ρ)
  | none => none
theorem escA_vs {ρ : Ro} : ∀ {ds : List D} {rs : List Rv}, escAll (ds.map Rv.v ++ rs) ρ = k_escs ds (escAll rs ρ)
  | [], rs => by
    show escAll rs ρ = _
    cases escAll rs ρ <;> rfl
  | d :: ds, rs => by
    rw [List.map_cons, List.cons_append, escA_cons, esc_v, escA_a, escA_vs]
    cases escAll rs ρ <;> rfl
@[simp] theorem escs_s {ds es : List D} : k_escs ds (some (es, ρ)) = some (ds ++ es, ρ) := Eq.trans rfl rfl
theorem escA_v0 {ρ : Ro} {ds : List D} : escAll (ds.map Rv.v) ρ = some (ds, ρ) := by
  have h := escA_vs (ρ := ρ) (ds := ds) (rs := [])
  rw [List.append_nil, escA_nil] at h
  rw [h]; show some (ds ++ [], ρ) = _; rw [List.append_nil]
@[simp] theorem int_s {n : Int} : intOf (some (.int n)) = some n := Eq.trans rfl rfl
@[simp] theorem o_none  : oNone ρ = .ok none ρ := Eq.trans rfl rfl
def k_osb (ρ : Ro) : Option Int → XR (Option Int)
  | some i => .ok (some i) ρ
  | none => .no
def k_os (r : Rv) (ρ : Ro) : XR (Option Int) := k_osb ρ (intOf (con ρ r))
@[simp] theorem r_os  : oSome fa ρ = (fa ρ).bind k_os := by unfold oSome k_os k_osb; rfl
@[simp] theorem r_osa  : k_os r ρ = k_osb ρ (intOf (con ρ r)) := Eq.trans rfl rfl
@[simp] theorem r_osb {n : Int} : k_osb ρ (some n) = .ok (some n) ρ := Eq.trans rfl rfl
def k_slc (r : Rv) (lo hi : Option Int) (ρ : Ro) : XR Rv := U.ret ρ (ap1 (gSl lo hi) (con ρ r))
def k_slb (r : Rv) (fh : OV) (lo : Option Int) (ρ : Ro) : XR Rv := (fh ρ).bind (k_slc r lo)
def k_sl (fl fh : OV) (r : Rv) (ρ : Ro) : XR Rv := (fl ρ).bind (k_slb r fh)
@[simp] theorem r_sl {fl fh : OV} : eSl fe fl fh ρ = (fe ρ).bind (k_sl fl fh) := by
  unfold eSl k_sl k_slb k_slc
  simp only [ap1_eq]
@[simp] theorem r_sla {fl fh : OV} : k_sl fl fh r ρ = (fl ρ).bind (k_slb r fh) := Eq.trans rfl rfl
@[simp] theorem r_slb {fh : OV} {lo : Option Int} : k_slb r fh lo ρ = (fh ρ).bind (k_slc r lo) := Eq.trans rfl rfl
@[simp] theorem r_slc {lo hi : Option Int} : k_slc r lo hi ρ = U.ret ρ (ap1 (gSl lo hi) (con ρ r)) := Eq.trans rfl rfl
def cons? (ρ : Ro) : List Rv → Option (List D)
  | [] => some []
  | r :: rs => match con ρ r, cons? ρ rs with
    | some d, some ds => some (d :: ds)
    | _, _ => none
theorem cons?_eq {ρ : Ro} : ∀ {rs : List Rv}, rs.mapM (con ρ) = cons? ρ rs
  | [] => rfl
  | r :: rs => by
    rw [List.mapM_cons, cons?_eq, cons?]
    cases con ρ r with
    | none => rfl
    | some d => cases cons? ρ rs <;> rfl
def k_cn : Option D → Option (List D) → Option (List D)
  | some d, some ds => some (d :: ds)
  | _, _ => none
@[simp] theorem cn_nil  : cons? ρ [] = some [] := Eq.trans rfl rfl
@[simp] theorem cn_cons {rs : List Rv} : cons? ρ (r :: rs) = k_cn (con ρ r) (cons? ρ rs) := by
  rw [cons?]
  unfold k_cn
  cases con ρ r <;> cases cons? ρ rs <;> rfl
@[simp] theorem cn_a {d : D} {ds : List D} : k_cn (some d) (some ds) = some (d :: ds) := Eq.trans rfl rfl
def apN (g : List D → Option Rv) : Option (List D) → Option Rv
  | some a => g a
  | none => none
@[simp] theorem apN_s {g : List D → Option Rv} {ds : List D} : apN g (some ds) = g ds := Eq.trans rfl rfl
def k_cv (g : List D → Option Rv) (rs : List Rv) (ρ : Ro) : XR Rv := U.ret ρ (apN g (cons? ρ rs))
@[simp] theorem r_cv {g : List D → Option Rv} : eCallV g as ρ = (as ρ).bind (k_cv g) := by
  unfold eCallV k_cv
  simp only [cons?_eq]
  congr 1; funext rs ρ1
  cases cons? ρ1 rs <;> rfl
@[simp] theorem r_cva {g : List D → Option Rv} {rs : List Rv} : k_cv g rs ρ = U.ret ρ (apN g (cons? ρ rs)) := Eq.trans rfl rfl
def k_fzb : Option (D × Ro) → XR Rv
  | some (d, ρ) => .ok (.v d) ρ
  | none => .no
def k_fz (r : Rv) (ρ : Ro) : XR Rv := k_fzb (esc r ρ)
@[simp] theorem r_fz  : eFz fa ρ = (fa ρ).bind k_fz := by unfold eFz k_fz k_fzb; rfl
@[simp] theorem r_fza  : k_fz r ρ = k_fzb (esc r ρ) := Eq.trans rfl rfl
@[simp] theorem r_fzb {d : D} : k_fzb (some (d, ρ)) = .ok (.v d) ρ := Eq.trans rfl rfl
def k_backb : Option Ro → Option Rv → XR Rv
  | some ρ, some r => .ok r ρ
  | _, _ => .no
def k_backx (e : D) : Option Ro → XR Rv
  | some ρ => .ex e ρ
  | none => .no
def k_back (rs : List Rv) (ρ : Ro) : XR Rv → XR Rv
  | .ok r ρ1 => k_backb (backA ρ rs ρ1 ρ) (resB rs r)
  | .ex e ρ1 => k_backx e (backA ρ rs ρ1 ρ)
  | .no => .no
def k_call (fv : EV) (rs : List Rv) (ρ : Ro) : Bool → Option Ro → XR Rv
  | true, some ρa => k_back rs ρ (fv ρa)
  | _, _ => .no
@[simp] theorem r_callR {fv : EV} {rs : List Rv} : callR fv rs ρ = k_call fv rs ρ (okBo ρ rs) (lendA ρ rs) := by
  unfold callR
  cases okBo ρ rs <;> cases e1 : lendA ρ rs <;> rfl
@[simp] theorem r_callS {fv : EV} {rs : List Rv} {ρa : Ro} : k_call fv rs ρ true (some ρa) = k_back rs ρ (fv ρa) := Eq.trans rfl rfl
@[simp] theorem r_back {rs : List Rv} : k_back rs ρ (.ok r ρ1) = k_backb (backA ρ rs ρ1 ρ) (resB rs r) := Eq.trans rfl rfl
@[simp] theorem r_backx {rs : List Rv} : k_back rs ρ (.ex e ρ1) = k_backx e (backA ρ rs ρ1 ρ) := Eq.trans rfl rfl
@[simp] theorem r_backno {rs : List Rv} : k_back rs ρ .no = .no := Eq.trans rfl rfl
@[simp] theorem r_backb  : k_backb (some ρ) (some r) = .ok r ρ := Eq.trans rfl rfl
@[simp] theorem r_backe  : k_backx e (some ρ) = .ex e ρ := Eq.trans rfl rfl
def k_ar : Nat → Option (Option Sl) → Option (Option Sl)
  | _, some (some (.val _ d)) => some (some (.val false d))
  | _, some (some (.own _ d)) => some (some (.own true d))
  | _, some (some (.lent _ d)) => some (some (.lent true d))
  | _, _ => none
@[simp] theorem ar_v {d : D} : argS ρ (.v d) = some (some (.val false d)) := Eq.trans rfl rfl
@[simp] theorem ar_bo  : argS ρ (.bo i) = k_ar i ρ[i]? := by
  unfold argS k_ar
  dsimp only
  all_goals cases ρ[i]? with
  | none => rfl
  | some s => cases s with
    | none => rfl
    | some s => cases s <;> rfl
@[simp] theorem ar_1 {p : Bool} {d : D} : k_ar i (some (some (.val p d))) = some (some (.val false d)) := Eq.trans rfl rfl
@[simp] theorem ar_2 {p : Bool} {d : D} : k_ar i (some (some (.own p d))) = some (some (.own true d)) := Eq.trans rfl rfl
@[simp] theorem ar_3 {p : Bool} {d : D} : k_ar i (some (some (.lent p d))) = some (some (.lent true d)) := Eq.trans rfl rfl
def k_ln : Option (Option Sl) → Option Ro → Option Ro
  | some s, some ss => some (s :: ss)
  | _, _ => none
@[simp] theorem ln_nil  : lendA ρ [] = some [] := Eq.trans rfl rfl
@[simp] theorem ln_cons {rs : List Rv} : lendA ρ (r :: rs) = k_ln (argS ρ r) (lendA ρ rs) := by
  rw [lendA]
  unfold k_ln
  cases argS ρ r <;> cases lendA ρ rs <;> rfl
@[simp] theorem ln_a {s : Option Sl} {ss : Ro} : k_ln (some s) (some ss) = some (s :: ss) := Eq.trans rfl rfl
def k_ox (i : Nat) : Option (Option Sl) → Option Nat
  | some (some (.own _ _)) => some i
  | _ => none
@[simp] theorem ox_v {d : D} : ownIx ρ (.v d) = none := Eq.trans rfl rfl
@[simp] theorem ox_fr {d : D} : ownIx ρ (.fr d) = none := Eq.trans rfl rfl
@[simp] theorem ox_bo  : ownIx ρ (.bo i) = k_ox i ρ[i]? := by unfold ownIx k_ox; rfl
@[simp] theorem ox_1 {p : Bool} {d : D} : k_ox i (some (some (.val p d))) = none := Eq.trans rfl rfl
@[simp] theorem ox_2 {p : Bool} {d : D} : k_ox i (some (some (.own p d))) = some i := Eq.trans rfl rfl
@[simp] theorem ox_3 {p : Bool} {d : D} : k_ox i (some (some (.lent p d))) = none := Eq.trans rfl rfl
def k_okb (ρ : Ro) (rs : List Rv) : Option Nat → Bool
  | none => true
  | some i => rs.all fun q => ownIx ρ q != some i
def k_neo (i : Nat) : List Rv → Ro → Bool
  | [], _ => true
  | q :: qs, ρ => (ownIx ρ q != some i) && k_neo i qs ρ
theorem neo_eq {i : Nat} {ρ : Ro} : ∀ {rs : List Rv}, (rs.all fun q => ownIx ρ q != some i) = k_neo i rs ρ
  | [] => rfl
  | q :: qs => by rw [List.all_cons, neo_eq]; rfl
@[simp] theorem ok_nil  : okBo ρ [] = true := Eq.trans rfl rfl
@[simp] theorem ok_cons {rs : List Rv} : okBo ρ (r :: rs) = (k_okb ρ rs (ownIx ρ r) && okBo ρ rs) := by
  rw [okBo]
  unfold k_okb
  cases ownIx ρ r <;> rfl
@[simp] theorem okb_n {rs : List Rv} : k_okb ρ rs none = true := Eq.trans rfl rfl
@[simp] theorem okb_s {rs : List Rv} : k_okb ρ rs (some i) = k_neo i rs ρ := neo_eq
@[simp] theorem neo_nil  : k_neo i [] ρ = true := Eq.trans rfl rfl
@[simp] theorem neo_cons {rs : List Rv} : k_neo i (r :: rs) ρ = ((ownIx ρ r != some i) && k_neo i rs ρ) := Eq.trans rfl rfl
def k_bas (i : Nat) (ρ1 : Ro) : Option Sl → Option Ro
  | some s2 => some (ρ1.set i (some s2))
  | none => none
def k_bab (ρ0 : Ro) (s : Option Sl) (ρ1 : Ro) : Option Nat → Option Ro
  | none => some ρ1
  | some i => k_bas i ρ1 (setB ρ0[i]? s)
def k_ba (ρ0 : Ro) (r : Rv) (s : Option Sl) : Option Ro → Option Ro
  | none => none
  | some ρ1 => k_bab ρ0 s ρ1 (ownIx ρ0 r)
@[simp] theorem ba_nil {ss : Ro} : backA ρ0 [] ss ρ = some ρ := by cases ss <;> rfl
@[simp] theorem ba_cons {rs : List Rv} {s : Option Sl} {ss : Ro} : backA ρ0 (r :: rs) (s :: ss) ρ = k_ba ρ0 r s (backA ρ0 rs ss ρ) := by
  rw [backA]
  unfold k_ba k_bab k_bas
  cases backA ρ0 rs ss ρ with
  | none => rfl
  | some ρ1 =>
    dsimp only
    cases ownIx ρ0 r with
    | none => rfl
    | some i => dsimp only; all_goals cases setB ρ0[i]? s <;> rfl
@[simp] theorem ba_s {s : Option Sl} : k_ba ρ0 r s (some ρ1) = k_bab ρ0 s ρ1 (ownIx ρ0 r) := Eq.trans rfl rfl
@[simp] theorem bab_n {s : Option Sl} : k_bab ρ0 s ρ1 none = some ρ1 := Eq.trans rfl rfl
@[simp] theorem bab_s {s : Option Sl} : k_bab ρ0 s ρ1 (some i) = k_bas i ρ1 (setB ρ0[i]? s) := Eq.trans rfl rfl
@[simp] theorem bas_s {s : Sl} : k_bas i ρ1 (some s) = some (ρ1.set i (some s)) := Eq.trans rfl rfl
@[simp] theorem sb_1 {p : Bool} {d d2 : D} : setB (some (some (.own p d))) (some (.own true d2)) = some (.own p d2) := Eq.trans rfl rfl
@[simp] theorem sb_2 {p : Bool} {d d2 : D} : setB (some (some (.own p d))) (some (.val true d2)) = some (.val p d2) := Eq.trans rfl rfl
def k_rb : Option Rv → Option Rv
  | some (.bo i) => some (.bo i)
  | some (.v d) => some (.v d)
  | _ => none
@[simp] theorem rb_v {rs : List Rv} {d : D} : resB rs (.v d) = some (.v d) := Eq.trans rfl rfl
@[simp] theorem rb_fr {rs : List Rv} {d : D} : resB rs (.fr d) = some (.fr d) := Eq.trans rfl rfl
@[simp] theorem rb_bo {rs : List Rv} : resB rs (.bo i) = k_rb rs[i]? := by unfold resB k_rb; rfl
@[simp] theorem rb_1  : k_rb (some (.bo i)) = some (.bo i) := Eq.trans rfl rfl
@[simp] theorem rb_2 {d : D} : k_rb (some (.v d)) = some (.v d) := Eq.trans rfl rfl
def k_argb (n m : Nat) (rs zs : List Rv) (ρ : Ro) : XR (List Rv) := if rs.length = n ∧ zs.length = m then .ok (rs ++ zs) ρ else .no
def k_arg (n m : Nat) (fk : AV) (rs : List Rv) (ρ : Ro) : XR (List Rv) := (fk ρ).bind (k_argb n m rs)
@[simp] theorem r_arg {n m : Nat} : eArgs n m as bs ρ = (as ρ).bind (k_arg n m bs) := Eq.trans rfl rfl
@[simp] theorem r_arga {n m : Nat} {rs : List Rv} : k_arg n m bs rs ρ = (bs ρ).bind (k_argb n m rs) := Eq.trans rfl rfl
@[simp] theorem r_argb {n m : Nat} {rs zs : List Rv} : k_argb n m rs zs ρ = if rs.length = n ∧ zs.length = m then .ok (rs ++ zs) ρ else .no := Eq.trans rfl rfl
def k_pick (fv : EV) (ρ : Ro) : Option (List Rv) → XR Rv
  | some rc => callR fv rc ρ
  | none => .no
@[simp] theorem r_pick {fv : EV} {rc : List Rv} : k_pick fv ρ (some rc) = callR fv rc ρ := Eq.trans rfl rfl
def k_ec (pk : Pk) (dds : List D) (fv : EV) (rs : List Rv) (ρ : Ro) : XR Rv := k_pick fv ρ (pickL pk rs (dds.map .v))
@[simp] theorem r_ec {n m : Nat} {pk : Pk} {dds : List D} {fv : EV} : eCall n m pk dds fv as bs ρ = (eArgs n m as bs ρ).bind (k_ec pk dds fv) := by
  unfold eCall k_ec k_pick
  congr 1
@[simp] theorem r_eca {pk : Pk} {dds : List D} {fv : EV} {rs : List Rv} : k_ec pk dds fv rs ρ = k_pick fv ρ (pickL pk rs (dds.map .v)) := Eq.trans rfl rfl
def k_pl {α : Type} : Option α → Option (List α) → Option (List α)
  | some x, some r => some (x :: r)
  | _, _ => none
@[simp] theorem pl_nil {α : Type} {xs ds : List α} : pickL [] xs ds = some [] := by rw [pickL]
@[simp] theorem pl_l {α : Type} {xs ds : List α} {pk : Pk} : pickL (.inl i :: pk) xs ds = k_pl xs[i]? (pickL pk xs ds) := by
  rw [pickL]
  unfold k_pl
  cases xs[i]? <;> cases pickL pk xs ds <;> rfl
@[simp] theorem pl_r {α : Type} {xs ds : List α} {pk : Pk} : pickL (.inr i :: pk) xs ds = k_pl ds[i]? (pickL pk xs ds) := by
  rw [pickL]
  unfold k_pl
  cases ds[i]? <;> cases pickL pk xs ds <;> rfl
@[simp] theorem pl_s {α : Type} {x : α} {xs : List α} : k_pl (some x) (some xs) = some (x :: xs) := Eq.trans rfl rfl
def k_emb (pk : Pk) (dds : List D) (fv : EV) (r0 : Rv) (rs : List Rv) (ρ : Ro) : XR Rv := k_pick fv ρ (pickL pk (r0 :: rs) (dds.map .v))
def k_em (c : Nat) (x : Str) (n m : Nat) (pk : Pk) (dds : List D) (fv : EV) (fa fk : AV) (r0 : Rv) (ρ : Ro) : XR Rv := if isObj c x (con ρ r0) = true then (eArgs n m fa fk ρ).bind (k_emb pk dds fv r0) else .no
@[simp] theorem r_em {c : Nat} {x : Str} {n m : Nat} {pk : Pk} {dds : List D} {fv : EV} : eMeth c x n m pk dds fv fo as bs ρ = (fo ρ).bind (k_em c x n m pk dds fv as bs) := by
  unfold eMeth k_em k_emb k_pick
  congr 1
@[simp] theorem r_ema {c : Nat} {x : Str} {n m : Nat} {pk : Pk} {dds : List D} {fv : EV} : k_em c x n m pk dds fv as bs r ρ = if isObj c x (con ρ r) = true then (eArgs n m as bs ρ).bind (k_emb pk dds fv r) else .no := Eq.trans rfl rfl
@[simp] theorem r_emb {pk : Pk} {dds : List D} {fv : EV} {rs : List Rv} : k_emb pk dds fv r rs ρ = k_pick fv ρ (pickL pk (r :: rs) (dds.map .v)) := Eq.trans rfl rfl
def k_mkc (n : Nat) : Option (List Rv) → Ro → EV → XR Rv
  | some rc, ρ, fv => madeR n (callR fv rc ρ)
  | none, _, _ => .no
def k_mk (c : Nat) (pk : Pk) (dds : List D) (fv : EV) (rs : List Rv) (ρ : Ro) : XR Rv := k_mkc ρ.length (pickL pk (.bo ρ.length :: rs) (dds.map .v)) (ρ ++ [some (.own false (.obj c [] []))]) fv
@[simp] theorem r_mk {c : Nat} {n m : Nat} {pk : Pk} {dds : List D} {fv : EV} : eMake c n m pk dds fv as bs ρ = (eArgs n m as bs ρ).bind (k_mk c pk dds fv) := by
  unfold eMake k_mk k_mkc
  congr 1; funext rs ρ1
  cases pickL pk (.bo ρ1.length :: rs) (dds.map .v) <;> rfl
@[simp] theorem r_mka {c : Nat} {pk : Pk} {dds : List D} {fv : EV} {rs : List Rv} : k_mk c pk dds fv rs ρ = k_mkc ρ.length (pickL pk (.bo ρ.length :: rs) (dds.map .v)) (ρ ++ [some (.own false (.obj c [] []))]) fv := Eq.trans rfl rfl
@[simp] theorem r_mkc {n : Nat} {rc : List Rv} {fv : EV} : k_mkc n (some rc) ρ fv = madeR n (callR fv rc ρ) := Eq.trans rfl rfl
def k_mdb (ρ : Ro) (n : Nat) : Option (Option Sl) → XR Rv
  | some (some (.own false d)) => .ok (.fr d) (ρ.take n)
  | some (some (.val false d)) => .ok (.v d) (ρ.take n)
  | _ => .no
@[simp] theorem md_ok {n : Nat} : madeR n (.ok (.v .non) ρ) = k_mdb ρ n ρ[n]? := by
  unfold madeR k_mdb
  dsimp only
  all_goals cases ρ[n]? with
  | none => rfl
  | some s => cases s with
    | none => rfl
    | some s => cases s with
      | val p d => cases p <;> rfl
      | own p d => cases p <;> rfl
      | lent p d => rfl
      | exc => rfl
@[simp] theorem md_1 {n : Nat} {d : D} : k_mdb ρ n (some (some (.own false d))) = .ok (.fr d) (ρ.take n) := Eq.trans rfl rfl
@[simp] theorem md_2 {n : Nat} {d : D} : k_mdb ρ n (some (some (.val false d))) = .ok (.v d) (ρ.take n) := Eq.trans rfl rfl
@[simp] theorem md_x {n : Nat} : madeR n (.ex e ρ) = .ex e (ρ.take n) := Eq.trans rfl rfl
@[simp] theorem io_s {c c2 : Nat} {m : Str} {ks : List Str} {ds : List D} : isObj c m (some (.obj c2 ks ds)) = (c2 == c && !ks.contains m) := Eq.trans rfl rfl
@[simp] theorem r_lenO {c : Nat} {fv : EV} : eLenO c fv fo ρ = eMeth c "__len__" 0 0 [.inl 0] [] (lenV fv) fo aNil aNil ρ := Eq.trans rfl rfl
def k_lenV : XR Rv → XR Rv
  | .ok (.v (.int n)) ρ1 => if 0 ≤ n ∧ n < 2 ^ 63 then .ok (.v (.int n)) ρ1 else .no
  | .ex e ρ1 => .ex e ρ1
  | _ => .no
@[simp] theorem r_lenV {fv : EV} : lenV fv ρ = k_lenV (fv ρ) := by unfold lenV k_lenV; rfl
@[simp] theorem r_lenVa {n : Int} : k_lenV (.ok (.v (.int n)) ρ) = if 0 ≤ n ∧ n < 2 ^ 63 then .ok (.v (.int n)) ρ else .no := Eq.trans rfl rfl
def k_bodyb : Option Ro → Option Rv → XR Rv
  | some ρ2, some r2 => .ok r2 ρ2
  | _, _ => .no
def k_body (ρ0 : Ro) : SR → XR Rv
  | .nx ρ => k_bodyb (outs ρ0 ρ) (some (.v .non))
  | .rt r ρ => k_bodyb (outs ρ0 ρ) (resR ρ r)
  | .ex e ρ => k_backx e (outs ρ0 ρ)
  | _ => .no
@[simp] theorem r_body {m : Nat} : bodyV m f ρ0 = k_body ρ0 (f (ρ0 ++ List.replicate m none)) := by
  unfold bodyV
  cases f (ρ0 ++ List.replicate m none) with
  | nx ρ => simp only [k_body]; cases outs ρ0 ρ <;> rfl
  | rt r ρ => simp only [k_body]; cases outs ρ0 ρ <;> cases resR ρ r <;> rfl
  | ex e ρ => simp only [k_body]; cases outs ρ0 ρ <;> rfl
  | bk ρ => rfl
  | ct ρ => rfl
  | no => rfl
@[simp] theorem bd_nx  : k_body ρ0 (.nx ρ) = k_bodyb (outs ρ0 ρ) (some (.v .non)) := Eq.trans rfl rfl
@[simp] theorem bd_rt  : k_body ρ0 (.rt r ρ) = k_bodyb (outs ρ0 ρ) (resR ρ r) := Eq.trans rfl rfl
@[simp] theorem bd_ex  : k_body ρ0 (.ex e ρ) = k_backx e (outs ρ0 ρ) := Eq.trans rfl rfl
@[simp] theorem bd_s  : k_bodyb (some ρ) (some r) = .ok r ρ := Eq.trans rfl rfl
def k_ou : Option (Option Sl) → Option Ro → Option Ro
  | some x, some xs => some (x :: xs)
  | _, _ => none
@[simp] theorem ou_nil  : outs [] ρ = some [] := by rw [outs]
@[simp] theorem ou_cons {a b : Option Sl} : outs (a :: ρ0) (b :: ρ) = k_ou (out1 a (some b)) (outs ρ0 ρ) := by
  rw [outs]
  show (match out1 a (some b), outs ρ0 ρ with | some x, some xs => some (x :: xs) | _, _ => none) = _
  unfold k_ou
  cases out1 a (some b) <;> cases outs ρ0 ρ <;> rfl
@[simp] theorem ou_s {x : Option Sl} {xs : Ro} : k_ou (some x) (some xs) = some (x :: xs) := Eq.trans rfl rfl
@[simp] theorem ou_1 {d e2 : D} : out1 (some (.own true d)) (some (some (.own true e2))) = some (some (.own true e2)) := Eq.trans rfl rfl
@[simp] theorem ou_2 {d e2 : D} : out1 (some (.own true d)) (some (some (.val true e2))) = if isBox e2 = true then some (some (.val true e2)) else none := Eq.trans rfl rfl
@[simp] theorem ou_3 {p : Bool} {d : D} {b : Option (Option Sl)} : out1 (some (.lent p d)) b = some (some (.lent p d)) := Eq.trans rfl rfl
@[simp] theorem ou_4 {p : Bool} {d : D} {b : Option (Option Sl)} : out1 (some (.val p d)) b = some none := Eq.trans rfl rfl
@[simp] theorem ou_5 {b : Option (Option Sl)} : out1 none b = some none := Eq.trans rfl rfl
def k_rr (i : Nat) : Option (Option Sl) → Option Rv
  | some (some (.val _ d)) => some (.v d)
  | some (some (.own true _)) => some (.bo i)
  | some (some (.own false d)) => some (.fr d)
  | some (some (.lent _ _)) => some (.bo i)
  | _ => none
@[simp] theorem rr_v {d : D} : resR ρ (.v d) = some (.v d) := Eq.trans rfl rfl
@[simp] theorem rr_fr {d : D} : resR ρ (.fr d) = some (.fr d) := Eq.trans rfl rfl
@[simp] theorem rr_bo  : resR ρ (.bo i) = k_rr i ρ[i]? := by
  unfold resR k_rr
  dsimp only
  all_goals cases ρ[i]? with
  | none => rfl
  | some s => cases s with
    | none => rfl
    | some s => cases s with
      | val p d => rfl
      | own p d => cases p <;> rfl
      | lent p d => rfl
      | exc => rfl
@[simp] theorem rr_1 {p : Bool} {d : D} : k_rr i (some (some (.val p d))) = some (.v d) := Eq.trans rfl rfl
@[simp] theorem rr_2 {d : D} : k_rr i (some (some (.own true d))) = some (.bo i) := Eq.trans rfl rfl
@[simp] theorem rr_3 {d : D} : k_rr i (some (some (.own false d))) = some (.fr d) := Eq.trans rfl rfl
@[simp] theorem rr_4 {p : Bool} {d : D} : k_rr i (some (some (.lent p d))) = some (.bo i) := Eq.trans rfl rfl
@[simp] theorem s_next  : sNext ρ = .nx ρ := Eq.trans rfl rfl
@[simp] theorem s_seq  : sSeq f g ρ = (f ρ).seq g := Eq.trans rfl rfl
@[simp] theorem s_retN  : sRetN ρ = .rt (.v .non) ρ := Eq.trans rfl rfl
@[simp] theorem s_brk  : sBrk ρ = .bk ρ := Eq.trans rfl rfl
@[simp] theorem s_cnt  : sCnt ρ = .ct ρ := Eq.trans rfl rfl
def k_sex (r : Rv) (ρ : Ro) : SR := .nx ρ
@[simp] theorem s_expr  : sExpr fa ρ = (fa ρ).then k_sex := Eq.trans rfl rfl
@[simp] theorem s_expra  : k_sex r ρ = .nx ρ := Eq.trans rfl rfl
def k_sret (r : Rv) (ρ : Ro) : SR := .rt r ρ
@[simp] theorem s_ret  : sRet fa ρ = (fa ρ).then k_sret := Eq.trans rfl rfl
@[simp] theorem s_reta  : k_sret r ρ = .rt r ρ := Eq.trans rfl rfl
def k_sif (f g : SV) (b : Bool) (ρ : Ro) : SR := if b = true then f ρ else g ρ
@[simp] theorem s_if  : sIf t f g ρ = (t ρ).then (k_sif f g) := Eq.trans rfl rfl
@[simp] theorem s_ifT  : k_sif f g true ρ = f ρ := Eq.trans rfl rfl
@[simp] theorem s_ifF  : k_sif f g false ρ = g ρ := Eq.trans rfl rfl
theorem s_ifB {b : Bool} : k_sif f g b ρ = if b = true then f ρ else g ρ := rfl
def k_fs : Option (Option Sl) → Bool
  | some none => true
  | some (some (.val p _)) => !p
  | some (some (.own p _)) => !p
  | _ => false
@[simp] theorem fs_eq  : freeSlot ρ i = k_fs ρ[i]? := by
  unfold freeSlot k_fs
  cases ρ[i]? with
  | none => rfl
  | some s => cases s with
    | none => rfl
    | some s => cases s <;> rfl
@[simp] theorem fs_0  : k_fs (some none) = true := Eq.trans rfl rfl
@[simp] theorem fs_1 {p : Bool} {d : D} : k_fs (some (some (.val p d))) = !p := Eq.trans rfl rfl
@[simp] theorem fs_2 {p : Bool} {d : D} : k_fs (some (some (.own p d))) = !p := Eq.trans rfl rfl
def k_asb (i : Nat) (s : Sl) (ρ : Ro) (b : Bool) : Option Ro := if b then some (ρ.set i (some s)) else none
def k_asc (i : Nat) : Option (D × Ro) → Option Ro
  | some (d, ρ) => k_asb i (.val false d) ρ (freeSlot ρ i)
  | none => none
@[simp] theorem as_v {d : D} : asgn i (.v d) ρ = k_asb i (.val false d) ρ (freeSlot ρ i) := Eq.trans rfl rfl
@[simp] theorem as_fr {d : D} : asgn i (.fr d) ρ = k_asb i (.own false d) ρ (freeSlot ρ i) := Eq.trans rfl rfl
@[simp] theorem as_bo  : asgn i (.bo j) ρ = k_asc i (esc (.bo j) ρ) := by
  unfold asgn k_asc k_asb
  dsimp only
  all_goals cases esc (.bo j) ρ <;> rfl
@[simp] theorem as_T {s : Sl} : k_asb i s ρ true = some (ρ.set i (some s)) := Eq.trans rfl rfl
@[simp] theorem as_c {d : D} : k_asc i (some (d, ρ)) = k_asb i (.val false d) ρ (freeSlot ρ i) := Eq.trans rfl rfl
@[simp] theorem nxO_s  : nxO (some ρ) = .nx ρ := Eq.trans rfl rfl
def k_asg (i : Nat) (r : Rv) (ρ : Ro) : SR := nxO (asgn i r ρ)
@[simp] theorem s_asg  : sAsg i fa ρ = (fa ρ).then (k_asg i) := Eq.trans rfl rfl
@[simp] theorem s_asga  : k_asg i r ρ = nxO (asgn i r ρ) := Eq.trans rfl rfl
def k_asgs (is : List Nat) (rs : List Rv) : Option Ro → Option Ro
  | some ρ => asgns is rs ρ
  | none => none
@[simp] theorem asgs_nil  : asgns [] [] ρ = some ρ := by rw [asgns]
@[simp] theorem asgs_cons {is : List Nat} {rs : List Rv} : asgns (i :: is) (r :: rs) ρ = k_asgs is rs (asgn i r ρ) := by
  rw [asgns]
  unfold k_asgs
  cases asgn i r ρ <;> rfl
@[simp] theorem asgs_s {is : List Nat} {rs : List Rv} : k_asgs is rs (some ρ) = asgns is rs ρ := Eq.trans rfl rfl
def k_stc (r : Rv) : Option (List Rv × Ro) → Option (List Rv × Ro)
  | some (rs, ρ) => some (r :: rs, ρ)
  | none => none
def k_stb (rs : List Rv) : Option (D × Ro) → Option (List Rv × Ro)
  | some (d, ρ) => k_stc (.v d) (settle rs ρ)
  | none => none
@[simp] theorem st_nil  : settle [] ρ = some ([], ρ) := by rw [settle]
@[simp] theorem st_bo {rs : List Rv} : settle (.bo j :: rs) ρ = k_stb rs (esc (.bo j) ρ) := by
  rw [settle]
  unfold k_stb k_stc
  cases esc (.bo j) ρ with
  | none => rfl
  | some q => obtain ⟨d, ρ1⟩ := q; dsimp only; all_goals cases settle rs ρ1 <;> rfl
@[simp] theorem st_v {rs : List Rv} {d : D} : settle (.v d :: rs) ρ = k_stc (.v d) (settle rs ρ) := by
  rw [settle]
  · unfold k_stc
    cases settle rs ρ <;> rfl
  · intro j z; cases z
@[simp] theorem st_fr {rs : List Rv} {d : D} : settle (.fr d :: rs) ρ = k_stc (.fr d) (settle rs ρ) := by
  rw [settle]
  · unfold k_stc
    cases settle rs ρ <;> rfl
  · intro j z; cases z
@[simp] theorem st_b {rs : List Rv} {d : D} : k_stb rs (some (d, ρ)) = k_stc (.v d) (settle rs ρ) := Eq.trans rfl rfl
@[simp] theorem st_c {rs : List Rv} : k_stc r (some (rs, ρ)) = some (r :: rs, ρ) := Eq.trans rfl rfl
def k_parb (is : List Nat) : Option (List Rv × Ro) → SR
  | some (rs, ρ) => nxO (asgns is rs ρ)
  | none => .no
def k_par (is : List Nat) (rs : List Rv) (ρ : Ro) : SR := k_parb is (settle rs ρ)
@[simp] theorem s_par {is : List Nat} : sPar is as ρ = (as ρ).then (k_par is) := by unfold sPar k_par k_parb; rfl
@[simp] theorem s_para {is : List Nat} {rs : List Rv} : k_par is rs ρ = k_parb is (settle rs ρ) := Eq.trans rfl rfl
@[simp] theorem s_parb {is : List Nat} {rs : List Rv} : k_parb is (some (rs, ρ)) = nxO (asgns is rs ρ) := Eq.trans rfl rfl
def k_unb (is : List Nat) (ρ : Ro) : Option D → SR
  | some (.tup ds) => nxO (asgns is (ds.map .v) ρ)
  | _ => .no
def k_un (is : List Nat) (r : Rv) (ρ : Ro) : SR := k_unb is ρ (con ρ r)
@[simp] theorem s_unp {is : List Nat} : sUnp is fa ρ = (fa ρ).then (k_un is) := by
  unfold sUnp k_un k_unb
  rfl
@[simp] theorem s_unpa {is : List Nat} : k_un is r ρ = k_unb is ρ (con ρ r) := Eq.trans rfl rfl
@[simp] theorem s_unpb {is : List Nat} {ds : List D} : k_unb is ρ (some (.tup ds)) = nxO (asgns is (ds.map .v) ρ) := Eq.trans rfl rfl
def k_ow : Option (Option Sl) → Option (Bool × D)
  | some (some (.own p d)) => some (p, d)
  | _ => none
@[simp] theorem ow_eq  : ownAt i ρ = k_ow ρ[i]? := by unfold ownAt k_ow; rfl
@[simp] theorem ow_s {p : Bool} {d : D} : k_ow (some (some (.own p d))) = some (p, d) := Eq.trans rfl rfl
def k_hs : Option (Option Sl) → Bool
  | some (some _) => true
  | _ => false
@[simp] theorem hs_eq  : hasSlot i ρ = k_hs ρ[i]? := by unfold hasSlot k_hs; rfl
@[simp] theorem hs_s {s : Sl} : k_hs (some (some s)) = true := Eq.trans rfl rfl
def k_sfc (cs : List Nat) (f : Str) (i : Nat) (d : D) (ρ : Ro) : Option (Bool × D) → SR
  | some (p, .obj c ks vs) => if c ∈ cs ∧ vs.length < 1000 then .nx (ρ.set i (some (.own p (.obj c (putD f d ks vs).1 (putD f d ks vs).2)))) else .no
  | _ => .no
def k_sfb (cs : List Nat) (f : Str) (i : Nat) : Option (D × Ro) → SR
  | some (d, ρ) => k_sfc cs f i d ρ (ownAt i ρ)
  | none => .no
def k_sf (cs : List Nat) (f : Str) (i : Nat) (r : Rv) (ρ : Ro) : SR := k_sfb cs f i (esc r ρ)
@[simp] theorem s_setF {cs : List Nat} {x : Str} : sSetF cs x i fa ρ = (fa ρ).then (k_sf cs x i) := by unfold sSetF k_sf k_sfb k_sfc; rfl
@[simp] theorem s_setFa {cs : List Nat} {x : Str} : k_sf cs x i r ρ = k_sfb cs x i (esc r ρ) := Eq.trans rfl rfl
@[simp] theorem s_setFb {cs : List Nat} {x : Str} {d : D} : k_sfb cs x i (some (d, ρ)) = k_sfc cs x i d ρ (ownAt i ρ) := Eq.trans rfl rfl
@[simp] theorem s_setFc {cs : List Nat} {x : Str} {d : D} {p : Bool} {c : Nat} {ks : List Str} {vs : List D} : k_sfc cs x i d ρ (some (p, .obj c ks vs)) = if c ∈ cs ∧ vs.length < 1000 then .nx (ρ.set i (some (.own p (.obj c (putD x d ks vs).1 (putD x d ks vs).2)))) else .no := Eq.trans rfl rfl
def k_sie (i : Nat) (d : D) (p : Bool) (xs : List D) (ρ : Ro) : Option Nat → SR
  | some j => .nx (ρ.set i (some (.own p (.lst (xs.set j d)))))
  | none => .no
def k_sid (i : Nat) (n : Int) (d : D) (ρ : Ro) : Option (Bool × D) → SR
  | some (p, .lst xs) => k_sie i d p xs ρ (ixN xs.length n)
  | _ => .no
def k_sic (i : Nat) : Option Int → Option (D × Ro) → SR
  | some n, some (d, ρ) => k_sid i n d ρ (ownAt i ρ)
  | _, _ => .no
def k_sib (i : Nat) (r k : Rv) (ρ : Ro) : SR := k_sic i (intOf (con ρ k)) (esc r ρ)
def k_si (i : Nat) (fi : EV) (r : Rv) (ρ : Ro) : SR := if hasSlot i ρ = true then (fi ρ).then (k_sib i r) else .no
@[simp] theorem s_setI  : sSetI i fa fb ρ = (fa ρ).then (k_si i fb) := by
  unfold sSetI k_si k_sib
  congr 1
@[simp] theorem s_setIa  : k_si i fb r ρ = if hasSlot i ρ = true then (fb ρ).then (k_sib i r) else .no := Eq.trans rfl rfl
@[simp] theorem s_setIb  : k_sib i r1 r2 ρ = k_sic i (intOf (con ρ r2)) (esc r1 ρ) := Eq.trans rfl rfl
@[simp] theorem s_setIc {n : Int} {d : D} : k_sic i (some n) (some (d, ρ)) = k_sid i n d ρ (ownAt i ρ) := Eq.trans rfl rfl
@[simp] theorem s_setId {n : Int} {d : D} {p : Bool} {xs : List D} : k_sid i n d ρ (some (p, .lst xs)) = k_sie i d p xs ρ (ixN xs.length n) := Eq.trans rfl rfl
@[simp] theorem s_setIe {d : D} {p : Bool} {xs : List D} : k_sie i d p xs ρ (some j) = .nx (ρ.set i (some (.own p (.lst (xs.set j d))))) := Eq.trans rfl rfl
def k_auc (i : Nat) (ρ : Ro) : Option Rv → SR
  | some r => nxO (asgn i r ρ)
  | none => .no
def k_aub (g : D → D → Option Rv) (i : Nat) (r0 r : Rv) (ρ : Ro) : SR := k_auc i ρ (ap2 g (con ρ r0) (con ρ r))
def k_au (g : D → D → Option Rv) (i : Nat) (fe : EV) (r0 : Rv) (ρ : Ro) : SR := (fe ρ).then (k_aub g i r0)
@[simp] theorem s_aug {g : D → D → Option Rv} : sAug g i fe ρ = (eVar i ρ).then (k_au g i fe) := by
  unfold sAug k_au k_aub k_auc
  congr 1; funext r0 ρ0
  congr 1; funext r ρ1
  unfold cons2
  cases con ρ1 r0 <;> cases con ρ1 r <;> rfl
@[simp] theorem s_auga {g : D → D → Option Rv} : k_au g i fe r ρ = (fe ρ).then (k_aub g i r) := Eq.trans rfl rfl
@[simp] theorem s_augb {g : D → D → Option Rv} : k_aub g i r1 r2 ρ = k_auc i ρ (ap2 g (con ρ r1) (con ρ r2)) := Eq.trans rfl rfl
@[simp] theorem s_augc  : k_auc i ρ (some r) = nxO (asgn i r ρ) := Eq.trans rfl rfl
def k_afe (cs : List Nat) (f : Str) (i c : Nat) (ρ : Ro) : Option Rv → Option (Bool × D) → SR
  | some (.v d), some (p, .obj c' ks' vs') => if c' = c ∧ vs'.length < 1000 then .nx (ρ.set i (some (.own p (.obj c (putD f d ks' vs').1 (putD f d ks' vs').2)))) else .no
  | _, _ => .no
def k_afd (cs : List Nat) (g : D → D → Option Rv) (f : Str) (i c : Nat) (a : D) (r : Rv) (ρ : Ro) : SR := k_afe cs f i c ρ (ap2 g (some a) (con ρ r)) (ownAt i ρ)
def k_afc (cs : List Nat) (g : D → D → Option Rv) (f : Str) (i c : Nat) (fe : EV) (ρ : Ro) : Option D → SR
  | some a => (fe ρ).then (k_afd cs g f i c a)
  | none => .no
def k_afb (cs : List Nat) (g : D → D → Option Rv) (f : Str) (i : Nat) (fe : EV) (ρ : Ro) : Option (Bool × D) → SR
  | some (_, .obj c ks vs) => if c ∈ cs then k_afc cs g f i c fe ρ (fld f ks vs) else .no
  | _ => .no
@[simp] theorem s_augF {cs : List Nat} {g : D → D → Option Rv} {x : Str} : sAugF cs g x i fe ρ = k_afb cs g x i fe ρ (ownAt i ρ) := by
  unfold sAugF k_afb
  cases ownAt i ρ with
  | none => rfl
  | some q =>
    obtain ⟨p, d⟩ := q
    cases d <;> try rfl
    rename_i c ks vs
    dsimp only
    by_cases hc : c ∈ cs
    · rw [if_pos hc, if_pos hc]
      unfold k_afc
      cases fld x ks vs with
      | none => rfl
      | some a =>
        dsimp only
        congr 1; funext r ρ1
        unfold k_afd
        cases con ρ1 r with
        | none => rfl
        | some b =>
          show (match g a b, ownAt i ρ1 with | some (.v d), some (p, .obj c' ks' vs') => _ | _, _ => _) = k_afe cs x i c ρ1 (g a b) (ownAt i ρ1)
          unfold k_afe
          rfl
    · rw [if_neg hc, if_neg hc]
@[simp] theorem s_augFb {cs : List Nat} {g : D → D → Option Rv} {x : Str} {p : Bool} {c : Nat} {ks : List Str} {vs : List D} : k_afb cs g x i fe ρ (some (p, .obj c ks vs)) = if c ∈ cs then k_afc cs g x i c fe ρ (fld x ks vs) else .no := Eq.trans rfl rfl
@[simp] theorem s_augFc {cs : List Nat} {g : D → D → Option Rv} {x : Str} {c : Nat} {d : D} : k_afc cs g x i c fe ρ (some d) = (fe ρ).then (k_afd cs g x i c d) := Eq.trans rfl rfl
@[simp] theorem s_augFd {cs : List Nat} {g : D → D → Option Rv} {x : Str} {c : Nat} {d : D} : k_afd cs g x i c d r ρ = k_afe cs x i c ρ (ap2 g (some d) (con ρ r)) (ownAt i ρ) := Eq.trans rfl rfl
@[simp] theorem s_augFe {cs : List Nat} {x : Str} {c c2 : Nat} {p : Bool} {d : D} {ks : List Str} {vs : List D} : k_afe cs x i c ρ (some (.v d)) (some (p, .obj c2 ks vs)) = if c2 = c ∧ vs.length < 1000 then .nx (ρ.set i (some (.own p (.obj c (putD x d ks vs).1 (putD x d ks vs).2)))) else .no := Eq.trans rfl rfl
def k_lmc (i : Nat) (p : Bool) (ρ : Ro) : Option (D × List D) → XR Rv
  | some (d, xs) => .ok (.v d) (ρ.set i (some (.own p (.lst xs))))
  | none => .no
def k_lmb (g : List D → List D → Option (D × List D)) (i : Nat) (ds : List D) (ρ : Ro) : Option (Bool × D) → XR Rv
  | some (p, .lst xs) => k_lmc i p ρ (g xs ds)
  | _ => .no
def k_lma (g : List D → List D → Option (D × List D)) (i : Nat) : Option (List D × Ro) → XR Rv
  | some (ds, ρ) => k_lmb g i ds ρ (ownAt i ρ)
  | none => .no
def k_lm0 (g : List D → List D → Option (D × List D)) (i : Nat) (as : AV) (ρ : Ro) : Option (Bool × D) → XR Rv
  | some (_, .lst _) => (as ρ).bind (lmEnd g i)
  | _ => .no
def k_lm00 (g : List D → List D → Option (D × List D)) (i : Nat) (ρ : Ro) : Option (Bool × D) → XR Rv
  | some (_, .lst _) => lmEnd g i [] ρ
  | _ => .no
@[simp] theorem r_lm {g : List D → List D → Option (D × List D)} : eLm g i as ρ = k_lm0 g i as ρ (ownAt i ρ) := by unfold eLm k_lm0; rfl
@[simp] theorem r_lm0 {g : List D → List D → Option (D × List D)} : eLm0 g i ρ = k_lm00 g i ρ (ownAt i ρ) := by unfold eLm0 k_lm00; rfl
@[simp] theorem r_lma {g : List D → List D → Option (D × List D)} {p : Bool} {xs : List D} : k_lm0 g i as ρ (some (p, .lst xs)) = (as ρ).bind (lmEnd g i) := Eq.trans rfl rfl
@[simp] theorem r_lm0a {g : List D → List D → Option (D × List D)} {p : Bool} {xs : List D} : k_lm00 g i ρ (some (p, .lst xs)) = lmEnd g i [] ρ := Eq.trans rfl rfl
@[simp] theorem r_lme {g : List D → List D → Option (D × List D)} {rs : List Rv} : lmEnd g i rs ρ = k_lma g i (escAll rs ρ) := by
  unfold lmEnd k_lma k_lmb k_lmc
  rfl
@[simp] theorem r_lmb {g : List D → List D → Option (D × List D)} {ds : List D} : k_lma g i (some (ds, ρ)) = k_lmb g i ds ρ (ownAt i ρ) := Eq.trans rfl rfl
@[simp] theorem r_lmc {g : List D → List D → Option (D × List D)} {ds xs : List D} {p : Bool} : k_lmb g i ds ρ (some (p, .lst xs)) = k_lmc i p ρ (g xs ds) := Eq.trans rfl rfl
@[simp] theorem r_lmd {p : Bool} {d : D} {xs : List D} : k_lmc i p ρ (some (d, xs)) = .ok (.v d) (ρ.set i (some (.own p (.lst xs)))) := Eq.trans rfl rfl
@[simp] theorem gFld_o {cs : List Nat} {x : Str} {c : Nat} {ks : List Str} {vs : List D} : gFld cs x (.obj c ks vs) = if c ∈ cs then (fld x ks vs).map .v else none := Eq.trans rfl rfl
@[simp] theorem fld_c {x k : Str} {ks : List Str} {d : D} {ds : List D} : fld x (k :: ks) (d :: ds) = if x = k then some d else fld x ks ds := Eq.trans rfl rfl
@[simp] theorem putD_nil {x : Str} {d : D} : putD x d [] [] = ([x], [d]) := by rw [putD]; intro k ks c ds z; cases z
@[simp] theorem putD_c {x k : Str} {ks : List Str} {d c : D} {ds : List D} : putD x d (k :: ks) (c :: ds) = if k = x then (k :: ks, d :: ds) else (k :: (putD x d ks ds).1, c :: (putD x d ks ds).2) := by rw [putD]
def k_rac (c : Nat) (m : Str) (fs : List Str) : Option (List D × Ro) → SR
  | some (ds, ρ) => if ds.length = fs.length then .ex (.obj c (fs.reverse ++ [("values_told" : Str)]) (ds.reverse ++ [.tup [.str m]])) ρ else .no
  | none => .no
def k_ra (c : Nat) (m : Str) (fs : List Str) (rs : List Rv) (ρ : Ro) : SR := k_rac c m fs (escAll rs ρ)
@[simp] theorem s_raise {c : Nat} {m : Str} {fs : List Str} : sRaise c m fs as ρ = (as ρ).then (k_ra c m fs) := by unfold sRaise k_ra k_rac; rfl
@[simp] theorem s_raisea {c : Nat} {m : Str} {fs : List Str} {rs : List Rv} : k_ra c m fs rs ρ = k_rac c m fs (escAll rs ρ) := Eq.trans rfl rfl
@[simp] theorem s_raiseb {c : Nat} {m : Str} {fs : List Str} {ds : List D} : k_rac c m fs (some (ds, ρ)) = if ds.length = fs.length then .ex (.obj c (fs.reverse ++ [("values_told" : Str)]) (ds.reverse ++ [.tup [.str m]])) ρ else .no := Eq.trans rfl rfl
def k_try (cs : List Cl) : SR → SR
  | .ex e ρ => catchV e cs ρ
  | x => x
@[simp] theorem s_try {cs : List Cl} : sTry f cs ρ = k_try cs (f ρ) := by unfold sTry k_try; rfl
@[simp] theorem try_nx {cs : List Cl} : k_try cs (.nx ρ) = .nx ρ := Eq.trans rfl rfl
@[simp] theorem try_rt {cs : List Cl} : k_try cs (.rt r ρ) = .rt r ρ := Eq.trans rfl rfl
@[simp] theorem try_bk {cs : List Cl} : k_try cs (.bk ρ) = .bk ρ := Eq.trans rfl rfl
@[simp] theorem try_ct {cs : List Cl} : k_try cs (.ct ρ) = .ct ρ := Eq.trans rfl rfl
@[simp] theorem try_no {cs : List Cl} : k_try cs (.no) = .no := Eq.trans rfl rfl
@[simp] theorem try_ex {cs : List Cl} : k_try cs (.ex e ρ) = catchV e cs ρ := Eq.trans rfl rfl
def k_tri (e : D) (c : Cl) (i : Nat) : Option Ro → SR
  | some ρ => leaveX i (c.f e ρ)
  | none => .no
def k_trb (e : D) (c : Cl) (r : List Cl) (ρ : Ro) : Option Nat → Option Bool → SR
  | none, some true => noEx (c.f e ρ)
  | some i, some true => k_tri e c i (enterX i ρ)
  | _, some false => catchV e r ρ
  | _, none => .no
@[simp] theorem ca_nil  : catchV e [] ρ = .ex e ρ := by rw [catchV]
@[simp] theorem ca_cons {c : Cl} {cs : List Cl} {k : Nat} {ks : List Str} {ds : List D} : catchV (.obj k ks ds) (c :: cs) ρ = k_trb (.obj k ks ds) c cs ρ c.j (c.m k) := by
  rw [catchV]
  unfold k_trb
  cases c.m k with
  | none => cases c.j <;> rfl
  | some b => cases b <;> cases c.j <;> rfl
@[simp] theorem ca_T {c : Cl} {cs : List Cl} : k_trb e c cs ρ none (some true) = noEx (c.f e ρ) := Eq.trans rfl rfl
@[simp] theorem ca_Ti {c : Cl} {cs : List Cl} : k_trb e c cs ρ (some i) (some true) = k_tri e c i (enterX i ρ) := Eq.trans rfl rfl
@[simp] theorem ca_F {c : Cl} {cs : List Cl} {o : Option Nat} : k_trb e c cs ρ o (some false) = catchV e cs ρ := by cases o <;> rfl
@[simp] theorem ca_i {c : Cl} : k_tri e c i (some ρ) = leaveX i (c.f e ρ) := Eq.trans rfl rfl
def k_enb (i : Nat) (ρ : Ro) : Option (Option Sl) → Option Ro
  | some none => some (ρ.set i (some .exc))
  | some (some (.val false _)) => some (ρ.set i (some .exc))
  | _ => none
def k_en (i : Nat) (ρ : Ro) (b : Bool) : Option Ro := if b = true then k_enb i ρ ρ[i]? else none
@[simp] theorem en_eq  : enterX i ρ = k_en i ρ (noX ρ) := by
  unfold enterX k_en k_enb
  cases noX ρ <;> rfl
@[simp] theorem en_T  : k_en i ρ true = k_enb i ρ ρ[i]? := Eq.trans rfl rfl
@[simp] theorem en_0  : k_enb i ρ (some none) = some (ρ.set i (some .exc)) := Eq.trans rfl rfl
@[simp] theorem en_1 {d : D} : k_enb i ρ (some (some (.val false d))) = some (ρ.set i (some .exc)) := Eq.trans rfl rfl
def k_lvb (i : Nat) (ρ : Ro) : Option (Option Sl) → Option Ro
  | some (some .exc) => if noX (ρ.set i none) = true then some (ρ.set i none) else none
  | _ => none
@[simp] theorem lv_eq  : leaveR i ρ = k_lvb i ρ ρ[i]? := by unfold leaveR k_lvb; rfl
@[simp] theorem lv_s  : k_lvb i ρ (some (some .exc)) = if noX (ρ.set i none) = true then some (ρ.set i none) else none := Eq.trans rfl rfl
def k_lx (f : Ro → SR) : Option Ro → SR
  | some ρ => f ρ
  | none => .no
@[simp] theorem lx_nx  : leaveX i (.nx ρ) = k_lx SR.nx (leaveR i ρ) := by
  unfold leaveX k_lx
  dsimp only
  all_goals cases leaveR i ρ <;> rfl
@[simp] theorem lx_bk  : leaveX i (.bk ρ) = k_lx SR.bk (leaveR i ρ) := by
  unfold leaveX k_lx
  dsimp only
  all_goals cases leaveR i ρ <;> rfl
@[simp] theorem lx_ct  : leaveX i (.ct ρ) = k_lx SR.ct (leaveR i ρ) := by
  unfold leaveX k_lx
  dsimp only
  all_goals cases leaveR i ρ <;> rfl
@[simp] theorem lx_rt  : leaveX i (.rt r ρ) = if isBo i r = true then .no else k_lx (SR.rt r) (leaveR i ρ) := by
  unfold leaveX k_lx
  dsimp only
  all_goals cases leaveR i ρ <;> rfl
@[simp] theorem lx_s {q : Ro → SR} : k_lx q (some ρ) = q ρ := Eq.trans rfl rfl
@[simp] theorem ne_nx  : noEx (.nx ρ) = .nx ρ := Eq.trans rfl rfl
@[simp] theorem ne_rt  : noEx (.rt r ρ) = .rt r ρ := Eq.trans rfl rfl
@[simp] theorem ne_bk  : noEx (.bk ρ) = .bk ρ := Eq.trans rfl rfl
@[simp] theorem ne_ct  : noEx (.ct ρ) = .ct ρ := Eq.trans rfl rfl
@[simp] theorem noX_nil  : noX [] = true := Eq.trans rfl rfl
@[simp] theorem noX_c {s : Option Sl} : noX (s :: ρ) = ((match s with | some .exc => false | _ => true) && noX ρ) := Eq.trans rfl rfl
def k_xfc (ρ : Ro) : Option D → XR Rv
  | some d => .ok (.v d) ρ
  | none => .no
def k_xf (cs : List Nat) (n : Str) (e : D) (ρ : Ro) : Option (Option Sl) → XR Rv
  | some (some .exc) => match e with
    | .obj k ks ds => if k ∈ cs then k_xfc ρ (fld n ks ds) else .no
    | _ => .no
  | _ => .no
@[simp] theorem r_xf {cs : List Nat} {n : Str} : eXf cs i n e ρ = k_xf cs n e ρ ρ[i]? := by
  unfold eXf k_xf k_xfc
  cases ρ[i]? with
  | none => rfl
  | some s => cases s with
    | none => rfl
    | some s => cases s with
      | val p d => rfl
      | own p d => rfl
      | lent p d => rfl
      | exc => cases e <;> try rfl
@[simp] theorem r_xfa {cs : List Nat} {n : Str} {k : Nat} {ks : List Str} {ds : List D} : k_xf cs n (.obj k ks ds) ρ (some (some .exc)) = if k ∈ cs then k_xfc ρ (fld n ks ds) else .no := Eq.trans rfl rfl
@[simp] theorem r_xfc {d : D} : k_xfc ρ (some d) = .ok (.v d) ρ := Eq.trans rfl rfl
def k_ixb (ρ : Ro) : Option Bool → XR Rv
  | some b => .ok (.v (.bl b)) ρ
  | none => .no
def k_ix (tab : List (Tag × Tag × Bool)) (u : Tag) (ρ : Ro) (e : D) : Option (Option Sl) → XR Rv
  | some (some .exc) => match e with
    | .obj k _ _ => k_ixb ρ (isTab tab (.cl k) u)
    | _ => .no
  | _ => .no
@[simp] theorem r_ix {tab : List (Tag × Tag × Bool)} {c : Tag} : eIsX tab i e c ρ = k_ix tab c ρ e ρ[i]? := by
  unfold eIsX k_ix k_ixb
  cases ρ[i]? with
  | none => rfl
  | some s => cases s with
    | none => rfl
    | some s => cases s with
      | val p d => rfl
      | own p d => rfl
      | lent p d => rfl
      | exc => cases e <;> try rfl
@[simp] theorem r_ixa {tab : List (Tag × Tag × Bool)} {c : Tag} {k : Nat} {ks : List Str} {ds : List D} : k_ix tab c ρ (.obj k ks ds) (some (some .exc)) = k_ixb ρ (isTab tab (.cl k) c) := Eq.trans rfl rfl
@[simp] theorem r_ixb {b : Bool} : k_ixb ρ (some b) = .ok (.v (.bl b)) ρ := Eq.trans rfl rfl
def k_sqb (ρ : Ro) (r : Rv) : Option D → XR (List D × Option Nat)
  | some (.lst ds) => .ok (ds, lendOf ρ r) ρ
  | some (.tup ds) => .ok (ds, none) ρ
  | _ => .no
def k_sq (r : Rv) (ρ : Ro) : XR (List D × Option Nat) := k_sqb ρ r (con ρ r)
@[simp] theorem w_seq  : wSeq fa ρ = (fa ρ).bind k_sq := by unfold wSeq k_sq k_sqb; rfl
@[simp] theorem w_seqa  : k_sq r ρ = k_sqb ρ r (con ρ r) := Eq.trans rfl rfl
@[simp] theorem w_seqL {ds : List D} : k_sqb ρ r (some (.lst ds)) = .ok (ds, lendOf ρ r) ρ := Eq.trans rfl rfl
@[simp] theorem w_seqT {ds : List D} : k_sqb ρ r (some (.tup ds)) = .ok (ds, none) ρ := Eq.trans rfl rfl
def k_lo (i : Nat) : Option (Option Sl) → Option Nat
  | some (some (.own _ _)) => some i
  | _ => none
@[simp] theorem lo_v {d : D} : lendOf ρ (.v d) = none := Eq.trans rfl rfl
@[simp] theorem lo_fr {d : D} : lendOf ρ (.fr d) = none := Eq.trans rfl rfl
@[simp] theorem lo_bo  : lendOf ρ (.bo i) = k_lo i ρ[i]? := by unfold lendOf k_lo; rfl
@[simp] theorem lo_1 {p : Bool} {d : D} : k_lo i (some (some (.val p d))) = none := Eq.trans rfl rfl
@[simp] theorem lo_2 {p : Bool} {d : D} : k_lo i (some (some (.own p d))) = some i := Eq.trans rfl rfl
@[simp] theorem lo_3 {p : Bool} {d : D} : k_lo i (some (some (.lent p d))) = none := Eq.trans rfl rfl
def k_r1b (ρ : Ro) : Option Int → XR (List D × Option Nat)
  | some j => if small62 j = true then .ok (rangeD 0 j.toNat, none) ρ else .no
  | none => .no
def k_r1 (rs : List Rv) (ρ : Ro) : XR (List D × Option Nat) := k_r1b ρ (one_int (cons? ρ rs))
@[simp] theorem w_r1  : wRng1 as ρ = (as ρ).bind k_r1 := by
  unfold wRng1 k_r1 k_r1b
  simp only [cons?_eq]
  all_goals rfl
@[simp] theorem w_r1a {rs : List Rv} : k_r1 rs ρ = k_r1b ρ (one_int (cons? ρ rs)) := Eq.trans rfl rfl
@[simp] theorem w_r1b {n : Int} : k_r1b ρ (some n) = if small62 n = true then .ok (rangeD 0 n.toNat, none) ρ else .no := Eq.trans rfl rfl
@[simp] theorem oi_s {n : Int} : one_int (some [.int n]) = some n := Eq.trans rfl rfl
def k_r2b (ρ : Ro) : Option (Int × Int) → XR (List D × Option Nat)
  | some (i, j) => if (small62 i && small62 j) = true then .ok (rangeD i (j - i).toNat, none) ρ else .no
  | none => .no
def k_r2 (rs : List Rv) (ρ : Ro) : XR (List D × Option Nat) := k_r2b ρ (two_int (cons? ρ rs))
@[simp] theorem w_r2  : wRng2 as ρ = (as ρ).bind k_r2 := by
  unfold wRng2 k_r2 k_r2b
  simp only [cons?_eq]
  all_goals rfl
@[simp] theorem w_r2a {rs : List Rv} : k_r2 rs ρ = k_r2b ρ (two_int (cons? ρ rs)) := Eq.trans rfl rfl
@[simp] theorem w_r2b {m n : Int} : k_r2b ρ (some (m, n)) = if (small62 m && small62 n) = true then .ok (rangeD m (n - m).toNat, none) ρ else .no := Eq.trans rfl rfl
@[simp] theorem ti_s {m n : Int} : two_int (some [.int m, .int n]) = some (m, n) := Eq.trans rfl rfl
def k_we (rs : List Rv) (ρ : Ro) : Option (List D) → XR (List D × Option Nat)
  | some ds => if rs.length = 1 then .ok (enumD 0 ds, lendOf ρ (oneR rs)) ρ else .no
  | none => .no
def k_wen (rs : List Rv) (ρ : Ro) : XR (List D × Option Nat) := k_we rs ρ (lstOf (con ρ (oneR rs)))
@[simp] theorem w_en  : wEnum as ρ = (as ρ).bind k_wen := by unfold wEnum k_wen k_we; rfl
@[simp] theorem w_ena {rs : List Rv} : k_wen rs ρ = k_we rs ρ (lstOf (con ρ (oneR rs))) := Eq.trans rfl rfl
@[simp] theorem w_enb {rs : List Rv} {ds : List D} : k_we rs ρ (some ds) = if rs.length = 1 then .ok (enumD 0 ds, lendOf ρ (oneR rs)) ρ else .no := Eq.trans rfl rfl
@[simp] theorem oneR_s  : oneR [r] = r := Eq.trans rfl rfl
@[simp] theorem lo_s {ds : List D} : lstOf (some (.lst ds)) = some ds := Eq.trans rfl rfl
def k_ls1b (ρ : Ro) : Option D → XR Rv
  | some (.int n) => if rgOk 0 n = true then .ok (.fr (.lst (rangeD 0 n.toNat))) ρ else .no
  | _ => .no
def k_ls1 (r : Rv) (ρ : Ro) : XR Rv := k_ls1b ρ (con ρ r)
@[simp] theorem r_ls1  : eListR1 fa ρ = (fa ρ).bind k_ls1 := by unfold eListR1 k_ls1 k_ls1b; rfl
@[simp] theorem r_ls1a  : k_ls1 r ρ = k_ls1b ρ (con ρ r) := Eq.trans rfl rfl
@[simp] theorem r_ls1b {n : Int} : k_ls1b ρ (some (.int n)) = if rgOk 0 n = true then .ok (.fr (.lst (rangeD 0 n.toNat))) ρ else .no := Eq.trans rfl rfl
def k_ls2c (ρ : Ro) : Option D → Option D → XR Rv
  | some (.int m), some (.int n) => if rgOk m n = true then .ok (.fr (.lst (rangeD m (n - m).toNat))) ρ else .no
  | _, _ => .no
def k_ls2b (r q : Rv) (ρ : Ro) : XR Rv := k_ls2c ρ (con ρ r) (con ρ q)
def k_ls2 (fb : EV) (r : Rv) (ρ : Ro) : XR Rv := (fb ρ).bind (k_ls2b r)
@[simp] theorem r_ls2  : eListR2 fa fb ρ = (fa ρ).bind (k_ls2 fb) := by
  unfold eListR2 k_ls2 k_ls2b
  congr 1; funext r ρ1; congr 1; funext q ρ2
  unfold cons2
  cases con ρ2 r with
  | none => rfl
  | some a => cases con ρ2 q with
    | none => cases a <;> rfl
    | some b => cases a <;> cases b <;> rfl
@[simp] theorem r_ls2a  : k_ls2 fb r ρ = (fb ρ).bind (k_ls2b r) := Eq.trans rfl rfl
@[simp] theorem r_ls2b  : k_ls2b r1 r2 ρ = k_ls2c ρ (con ρ r1) (con ρ r2) := Eq.trans rfl rfl
@[simp] theorem r_ls2c {m n : Int} : k_ls2c ρ (some (.int m)) (some (.int n)) = if rgOk m n = true then .ok (.fr (.lst (rangeD m (n - m).toNat))) ρ else .no := Eq.trans rfl rfl
def k_for (asg : GV) (body : SV) (q : List D × Option Nat) (ρ : Ro) : SR := backS q.2 ρ (loopL asg body q.1 (lend q.2 ρ))
@[simp] theorem s_for {asg : GV} {w : WV} : sFor asg w f ρ = (w ρ).then (k_for asg f) := Eq.trans rfl rfl
@[simp] theorem s_fora {asg : GV} {ds : List D} {m : Option Nat} : k_for asg f (ds, m) ρ = backS m ρ (loopL asg f ds (lend m ρ)) := Eq.trans rfl rfl
@[simp] theorem ld_n  : lend none ρ = ρ := Eq.trans rfl rfl
def k_ld (i : Nat) (ρ : Ro) : Option (Option Sl) → Ro
  | some (some (.own p d)) => ρ.set i (some (.lent p d))
  | _ => ρ
@[simp] theorem ld_s  : lend (some i) ρ = k_ld i ρ ρ[i]? := by unfold lend k_ld; rfl
@[simp] theorem ld_1 {p : Bool} {d : D} : k_ld i ρ (some (some (.own p d))) = ρ.set i (some (.lent p d)) := Eq.trans rfl rfl
@[simp] theorem bk_n  : back none ρ0 ρ = ρ := Eq.trans rfl rfl
def k_bk (i : Nat) (ρ : Ro) : Option (Option Sl) → Ro
  | some (some (.own p d)) => ρ.set i (some (.own p d))
  | _ => ρ
@[simp] theorem bk_s  : back (some i) ρ0 ρ = k_bk i ρ ρ0[i]? := by unfold back k_bk; rfl
@[simp] theorem bk_1 {p : Bool} {d : D} : k_bk i ρ (some (some (.own p d))) = ρ.set i (some (.own p d)) := Eq.trans rfl rfl
@[simp] theorem bs_nx {m : Option Nat} : backS m ρ0 (.nx ρ) = .nx (back m ρ0 ρ) := Eq.trans rfl rfl
@[simp] theorem bs_bk {m : Option Nat} : backS m ρ0 (.bk ρ) = .bk (back m ρ0 ρ) := Eq.trans rfl rfl
@[simp] theorem bs_ct {m : Option Nat} : backS m ρ0 (.ct ρ) = .ct (back m ρ0 ρ) := Eq.trans rfl rfl
@[simp] theorem bs_rt {m : Option Nat} : backS m ρ0 (.rt r ρ) = .rt r (back m ρ0 ρ) := Eq.trans rfl rfl
@[simp] theorem bs_ex {m : Option Nat} : backS m ρ0 (.ex e ρ) = .ex e (back m ρ0 ρ) := Eq.trans rfl rfl
def k_lpb (asg : GV) (body : SV) (ds : List D) : SR → SR
  | .nx ρ => loopL asg body ds ρ
  | .ct ρ => loopL asg body ds ρ
  | .bk ρ => .nx ρ
  | x => x
def k_lp (asg : GV) (body : SV) (ds : List D) : Option Ro → SR
  | some ρ => k_lpb asg body ds (body ρ)
  | none => .no
theorem loop_nil {asg : GV} : loopL asg f [] ρ = .nx ρ := by rw [loopL]
theorem loop_cons {asg : GV} {d : D} {ds : List D} : loopL asg f (d :: ds) ρ = k_lp asg f ds (asg d ρ) := by
  rw [loopL]
  unfold k_lp k_lpb
  cases asg d ρ with
  | none => rfl
  | some ρ1 => dsimp only; all_goals cases f ρ1 <;> rfl
@[simp] theorem lp_s {asg : GV} {ds : List D} : k_lp asg f ds (some ρ) = k_lpb asg f ds (f ρ) := Eq.trans rfl rfl
@[simp] theorem lpb_nx {asg : GV} {ds : List D} : k_lpb asg f ds (.nx ρ) = loopL asg f ds ρ := Eq.trans rfl rfl
@[simp] theorem lpb_ct {asg : GV} {ds : List D} : k_lpb asg f ds (.ct ρ) = loopL asg f ds ρ := Eq.trans rfl rfl
@[simp] theorem lpb_bk {asg : GV} {ds : List D} : k_lpb asg f ds (.bk ρ) = .nx ρ := Eq.trans rfl rfl
@[simp] theorem lpb_rt {asg : GV} {ds : List D} : k_lpb asg f ds (.rt r ρ) = .rt r ρ := Eq.trans rfl rfl
@[simp] theorem lpb_ex {asg : GV} {ds : List D} : k_lpb asg f ds (.ex e ρ) = .ex e ρ := Eq.trans rfl rfl
@[simp] theorem g_one {d : D} : gOne i d ρ = asgn i (.v d) ρ := Eq.trans rfl rfl
@[simp] theorem g_many {is : List Nat} {ds : List D} : gMany is (.tup ds) ρ = asgns is (ds.map .v) ρ := Eq.trans rfl rfl
def k_whb (t : TV) (body : SV) (n : Nat) : SR → SR
  | .nx ρ => whileL t body n ρ
  | .ct ρ => whileL t body n ρ
  | .bk ρ => .nx ρ
  | x => x
def k_wh (t : TV) (body : SV) (n : Nat) (b : Bool) (ρ : Ro) : SR := if b = true then k_whb t body n (body ρ) else .nx ρ
theorem while_s {n : Nat} : whileL t f (n + 1) ρ = (t ρ).then (k_wh t f n) := by
  rw [whileL]
  unfold k_wh k_whb
  congr 1
@[simp] theorem s_while {n : Nat} : sWhile n t f ρ = whileL t f n ρ := Eq.trans rfl rfl
@[simp] theorem wh_T {n : Nat} : k_wh t f n true ρ = k_whb t f n (f ρ) := Eq.trans rfl rfl
@[simp] theorem wh_F {n : Nat} : k_wh t f n false ρ = .nx ρ := Eq.trans rfl rfl
@[simp] theorem whb_nx {n : Nat} : k_whb t f n (.nx ρ) = whileL t f n ρ := Eq.trans rfl rfl
@[simp] theorem whb_ct {n : Nat} : k_whb t f n (.ct ρ) = whileL t f n ρ := Eq.trans rfl rfl
@[simp] theorem whb_bk {n : Nat} : k_whb t f n (.bk ρ) = .nx ρ := Eq.trans rfl rfl
@[simp] theorem whb_rt {n : Nat} : k_whb t f n (.rt r ρ) = .rt r ρ := Eq.trans rfl rfl
@[simp] theorem whb_ex {n : Nat} : k_whb t f n (.ex e ρ) = .ex e ρ := Eq.trans rfl rfl
def k_cmc (vs : List Nat) (q : Option Nat) (ρ1 : Ro) : XR (List D) → XR Rv
  | .ok acc ρ2 => .ok (.fr (.lst acc)) (back q ρ1 (restore (lend q ρ1) ρ2 vs))
  | _ => .no
def k_cm (vs : List Nat) (asg : GV) (tt : TV) (te : EV) (q : List D × Option Nat) (ρ1 : Ro) : XR Rv := if okHide (lend q.2 ρ1) vs = true then k_cmc vs q.2 ρ1 (compL vs asg tt te q.1 [] (wipeR (lend q.2 ρ1) vs)) else .no
@[simp] theorem r_cm {vs : List Nat} {asg : GV} {w : WV} : eComp vs asg w t fe ρ = (w ρ).bind (k_cm vs asg t fe) := by
  unfold eComp k_cm k_cmc
  congr 1
@[simp] theorem r_cma {vs : List Nat} {asg : GV} {ds : List D} {m : Option Nat} : k_cm vs asg t fe (ds, m) ρ = if okHide (lend m ρ) vs = true then k_cmc vs m ρ (compL vs asg t fe ds [] (wipeR (lend m ρ) vs)) else .no := Eq.trans rfl rfl
@[simp] theorem r_cmb {vs : List Nat} {m : Option Nat} {acc : List D} : k_cmc vs m ρ1 (.ok acc ρ2) = .ok (.fr (.lst acc)) (back m ρ1 (restore (lend m ρ1) ρ2 vs)) := Eq.trans rfl rfl
def k_hd : Option (Option Sl) → Bool
  | some none => true
  | some (some (.val _ _)) => true
  | _ => false
@[simp] theorem hd_nil  : okHide ρ [] = true := Eq.trans rfl rfl
@[simp] theorem hd_c {vs : List Nat} : okHide ρ (i :: vs) = (k_hd ρ[i]? && okHide ρ vs) := by unfold okHide k_hd; rw [List.all_cons]; all_goals rfl
@[simp] theorem hd_0  : k_hd (some none) = true := Eq.trans rfl rfl
@[simp] theorem hd_1 {p : Bool} {d : D} : k_hd (some (some (.val p d))) = true := Eq.trans rfl rfl
@[simp] theorem wi_nil  : wipeR ρ [] = ρ := Eq.trans rfl rfl
@[simp] theorem wi_c {vs : List Nat} : wipeR ρ (i :: vs) = (wipeR ρ vs).set i none := Eq.trans rfl rfl
@[simp] theorem rs_nil  : restore ρ0 ρ [] = ρ := Eq.trans rfl rfl
@[simp] theorem rs_c {vs : List Nat} : restore ρ0 ρ (i :: vs) = (restore ρ0 ρ vs).set i (ρ0.getD i none) := Eq.trans rfl rfl
def k_cpc (vs : List Nat) (asg : GV) (tt : TV) (te : EV) (ds acc : List D) : Option (D × Ro) → XR (List D)
  | some (x, ρ) => if acc.length < big then compL vs asg tt te ds (acc ++ [x]) (wipeR ρ vs) else .no
  | none => .no
def k_cpe (vs : List Nat) (asg : GV) (tt : TV) (te : EV) (ds acc : List D) : XR Rv → XR (List D)
  | .ok r ρ => k_cpc vs asg tt te ds acc (esc r ρ)
  | _ => .no
def k_cpt (vs : List Nat) (asg : GV) (tt : TV) (te : EV) (ds acc : List D) : XR Bool → XR (List D)
  | .ok true ρ => k_cpe vs asg tt te ds acc (te ρ)
  | .ok false ρ => compL vs asg tt te ds acc (wipeR ρ vs)
  | _ => .no
def k_cp (vs : List Nat) (asg : GV) (tt : TV) (te : EV) (ds acc : List D) : Option Ro → XR (List D)
  | some ρ => k_cpt vs asg tt te ds acc (tt ρ)
  | none => .no
theorem comp_nil {vs : List Nat} {asg : GV} {acc : List D} : compL vs asg t fe [] acc ρ = .ok acc ρ := by rw [compL]
theorem comp_cons {vs : List Nat} {asg : GV} {d : D} {ds acc : List D} : compL vs asg t fe (d :: ds) acc ρ = k_cp vs asg t fe ds acc (asg d ρ) := by
  rw [compL]
  unfold k_cp
  cases asg d ρ with
  | none => rfl
  | some ρ1 =>
    dsimp only
    cases t ρ1 with
    | no => rfl
    | ex e ρ2 => rfl
    | ok b ρ2 =>
      cases b with
      | false => rfl
      | true =>
        simp only [k_cpt]
        cases fe ρ2 with
        | no => rfl
        | ex e ρ3 => rfl
        | ok r ρ3 =>
          simp only [k_cpe]
          cases esc r ρ3 <;> rfl
@[simp] theorem cp_s {vs : List Nat} {asg : GV} {ds acc : List D} : k_cp vs asg t fe ds acc (some ρ) = k_cpt vs asg t fe ds acc (t ρ) := Eq.trans rfl rfl
@[simp] theorem cp_T {vs : List Nat} {asg : GV} {ds acc : List D} : k_cpt vs asg t fe ds acc (.ok true ρ) = k_cpe vs asg t fe ds acc (fe ρ) := Eq.trans rfl rfl
@[simp] theorem cp_F {vs : List Nat} {asg : GV} {ds acc : List D} : k_cpt vs asg t fe ds acc (.ok false ρ) = compL vs asg t fe ds acc (wipeR ρ vs) := Eq.trans rfl rfl
@[simp] theorem cp_e {vs : List Nat} {asg : GV} {ds acc : List D} : k_cpe vs asg t fe ds acc (.ok r ρ) = k_cpc vs asg t fe ds acc (esc r ρ) := Eq.trans rfl rfl
@[simp] theorem cp_c {vs : List Nat} {asg : GV} {ds acc : List D} {x : D} : k_cpc vs asg t fe ds acc (some (x, ρ)) = if acc.length < big then compL vs asg t fe ds (acc ++ [x]) (wipeR ρ vs) else .no := Eq.trans rfl rfl
end
/-! ### values -/
end U
end part_U29

section part_U30
set_option Elab.async false
set_option linter.all false
set_option maxRecDepth 100000
set_option maxHeartbeats 1000000
/-! U30: plain words: sizes, comparing, showing. -/
namespace U
open PySem PyProof.Rows L2
theorem log2_of {n k : Nat} (hk : 0 < k) (h : n < 2 ^ k) : n.log2 < k := by
  by_cases h0 : n = 0
  · subst h0; simpa using hk
  · exact (Nat.log2_lt h0).mpr h
theorem mul_ok {i j : Int} (hi : i.natAbs < 2 ^ 250) (hj : j.natAbs < 2 ^ 250) : gMul (.int i) (.int j) = some (.v (.int (i * j))) := by
  have a := log2_of (by decide) hi
  have b := log2_of (by decide) hj
  show (if i.natAbs.log2 + j.natAbs.log2 < 1000000 then some (Rv.v (.int (i * j))) else none) = _
  rw [if_pos (by omega)]
theorem pow_ok {i : Int} {n : Nat} (hi : i.natAbs < 2 ^ 64) (hn : n ≤ 1000000) : gPow (.int i) (.int (n : Int)) = some (.v (.int (i ^ n))) := by
  show (if 0 ≤ (n : Int) ∧ (n : Int) ≤ 1000000 ∧ i.natAbs < 2 ^ 64 then some (Rv.v (.int (i ^ (n : Int).toNat))) else none) = _
  rw [if_pos ⟨by omega, by omega, hi⟩, Int.toNat_natCast]
theorem div_ok {i j : Int} (h : 0 < j) (hj : j.natAbs < 2 ^ 8000) : gDiv (.int i) (.int j) = some (.v (.int (i / j))) := by
  have a := log2_of (by decide) hj
  show (if 0 < j ∧ j.natAbs.log2 < 9000 then some (Rv.v (.int (i / j))) else none) = _
  rw [if_pos ⟨h, by omega⟩]
theorem mod_ok {i j : Int} (h : 0 < j) : gMod (.int i) (.int j) = some (.v (.int (i % j))) := by
  show (if 0 < j then some (Rv.v (.int (i % j))) else none) = _
  rw [if_pos h]
theorem eq_ints {n : Bool} {i j : Int} : gEq n (.int i) (.int j) = some (.v (.bl (if n then !decide (i = j) else decide (i = j)))) := by
  have e : (i == j) = decide (i = j) := rfl
  cases n <;> simp [gEq, gEqS, gEqD, py, SeqAt.shaped, PyData.canLay0, PyData.depth, PyData.eqv, e]
theorem eq_strs {n : Bool} {i j : Str} : gEq n (.str i) (.str j) = some (.v (.bl (if n then !decide (i = j) else decide (i = j)))) := rfl
theorem pyL_ints : ∀ ns : List Int, pyL (ns.map D.int) = some (ns.map PyData.int)
  | [] => by rw [List.map_nil, pyL]; rfl
  | n :: ns => by simp [pyL, py, pyL_ints ns]
theorem lay_ints : ∀ ns : List Int, PyData.canLayAll0 (ns.map PyData.int) = true
  | [] => by rw [List.map_nil, PyData.canLayAll0]
  | n :: ns => by simp [PyData.canLayAll0, PyData.canLay0, lay_ints ns]
theorem depth_ints : ∀ ns : List Int, PyData.depthAll (ns.map PyData.int) = 0
  | [] => by rw [List.map_nil, PyData.depthAll]
  | n :: ns => by simp [PyData.depthAll, PyData.depth, depth_ints ns]
theorem eqv_ints : ∀ ms ns : List Int, PyData.eqvAll (ms.map PyData.int) (ns.map PyData.int) = decide (ms = ns)
  | [], [] => by simp [PyData.eqvAll]
  | [], n :: ns => by simp [PyData.eqvAll]
  | m :: ms, [] => by simp [PyData.eqvAll]
  | m :: ms, n :: ns => by
    simp only [List.map_cons, PyData.eqvAll, PyData.eqv, eqv_ints ms ns]
    rw [Bool.eq_iff_iff]
    simp
/-- lists of integers -/
theorem eq_lists {n : Bool} {ms ns : List Int} : gEq n (.lst (ms.map .int)) (.lst (ns.map .int)) = some (.v (.bl (if n then !decide (ms = ns) else decide (ms = ns)))) := by
  cases n <;> simp [gEq, gEqS, gEqD, py, pyL_ints, SeqAt.shaped, PyData.canLay0, PyData.depth, PyData.eqv, lay_ints, depth_ints, eqv_ints]
theorem eq_listN {n : Bool} {ms : List Int} : gEq n (.lst (ms.map .int)) (.lst []) = some (.v (.bl (if n then !decide (ms = []) else decide (ms = [])))) := eq_lists (ns := [])
/-! showing -/
theorem okR_ints : ∀ {ns : List Int}, (∀ n ∈ ns, n.natAbs < 2 ^ 1900) → okRL (ns.map D.int) = true
  | [], _ => by rw [List.map_nil, okRL]
  | n :: ns, h => by
    have := log2_of (by decide) (h n List.mem_cons_self)
    simp only [List.map_cons, okRL, okR, okR_ints fun m hm => h m (List.mem_cons_of_mem _ hm), Bool.and_true]
    exact decide_eq_true (by omega)
theorem okR_int {n : Int} (h : n.natAbs < 2 ^ 1900) : okR (.int n) = true := by
  have := log2_of (by decide) h
  rw [okR]
  exact decide_eq_true (by omega)
theorem rsz_ints : ∀ ns : List Int, rszL (ns.map D.int) = 1932 * ns.length
  | [] => by rw [List.map_nil, rszL]; rfl
  | n :: ns => by
    simp only [List.map_cons, rszL, rsz, rsz_ints ns, List.length_cons]
    omega
theorem dpt_ints : ∀ ns : List Int, dptL (ns.map D.int) = 0
  | [] => by rw [List.map_nil, dptL]
  | n :: ns => by simp [dptL, dpt, dpt_ints ns]
/-- what repr gives -/
def shownD (d : D) : Str := match py d with
  | some p => p.shown
  | none => Str.empty
theorem repr_ok {d : D} (h1 : (py d).isSome = true) (h2 : okR d = true) (h3 : rsz d ≤ big) (h4 : dpt d ≤ 60) : gRepr [d] = some (.v (.str (shownD d))) := by
  unfold gRepr shownD
  cases e : py d with
  | none => rw [e] at h1; cases h1
  | some p =>
    simp only [e]
    rw [if_pos (by simp only [h2, Bool.true_and, Bool.and_eq_true]; exact ⟨decide_eq_true h3, decide_eq_true h4⟩)]
theorem ints_of : ∀ ns : List Int, intsOf (ns.map D.int) = some ns
  | [] => rfl
  | n :: ns => by simp [intsOf, ints_of ns]
theorem sorted_ints {ns : List Int} : gSorted [.lst (ns.map .int)] = some (.fr (.lst ((srt ns).map .int))) := by
  show (intsOf (ns.map .int)).map _ = _
  rw [ints_of]
  rfl
/-- a list's item -/
theorem idx_lst {ds : List D} {i : Int} {d : D} (h0 : 0 ≤ i) (h : ds[i.toNat]? = some d) : gIdx (.lst ds) (.int i) = some (.v d) := by
  have hl := (List.getElem?_eq_some_iff.mp h).1
  show (L2.atI ds i).map Rv.v = _
  unfold L2.atI L2.ixN
  rw [if_pos h0, if_pos (by omega)]
  simp [h]
theorem idx_tup {ds : List D} {i : Int} {d : D} (h0 : 0 ≤ i) (h : ds[i.toNat]? = some d) : gIdx (.tup ds) (.int i) = some (.v d) := by
  have hl := (List.getElem?_eq_some_iff.mp h).1
  show (L2.atI ds i).map Rv.v = _
  unfold L2.atI L2.ixN
  rw [if_pos h0, if_pos (by omega)]
  simp [h]
end U
end part_U30

section part_Wk60
set_option Elab.async false
set_option linter.all false
set_option maxRecDepth 100000
set_option maxHeartbeats 1000000
/-! ### the law k60: its text by places, made by gen.py -/
namespace Lk60
open PySem PyProof.Rows L2 NdefX StX U
def top (i : Nat) : Stmt := PySem.Challenge.pw_jumblepost_k60_stores.main.body.getD i (.Pass ⟨0, 0, 0, 0⟩)
abbrev s_pen : Stmt := top 11
abbrev s_draw : Stmt := top 12
abbrev s_pick : Stmt := top 13
abbrev s_order : Stmt := top 14
abbrev s_is_number : Stmt := top 6
abbrev s_Store_init : Stmt := inClass (top 9) 0
abbrev s_Store_put : Stmt := inClass (top 9) 2
abbrev s_put : Stmt := top 15
abbrev s_run_right : Stmt := top 18
abbrev s_made_right : Stmt := top 19
abbrev s_Store_len : Stmt := inClass (top 9) 1
abbrev s_shown : Stmt := top 16
abbrev s_steps_right : Stmt := top 17
abbrev s_law : Stmt := top 20
abbrev s_BadValue_init : Stmt := inClass (top 2) 0
abbrev s_Unfit_init : Stmt := inClass (top 3) 0
abbrev s_PostError_init : Stmt := inClass (top 1) 0
abbrev n_pen : List Str := ["_law_script"]
theorem sc_pen : FnScope n_pen ["_law_script"] (defScope s_pen) := ⟨rfl, rfl, rfl, by decide +kernel, rfl, by decide +kernel, by decide +kernel⟩
abbrev n_draw : List Str := ["_law_pen_here", "_law_many", "_law_digit", "_law_at", "_law_cell", "_law_great", "_law_mixed"]
theorem sc_draw : FnScope n_draw ["_law_pen_here", "_law_many"] (defScope s_draw) := ⟨rfl, rfl, rfl, by decide +kernel, rfl, by decide +kernel, by decide +kernel⟩
abbrev n_pick : List Str := ["_law_pen_here", "_law_some"]
theorem sc_pick : FnScope n_pick ["_law_pen_here", "_law_some"] (defScope s_pick) := ⟨rfl, rfl, rfl, by decide +kernel, rfl, by decide +kernel, by decide +kernel⟩
abbrev n_order : List Str := ["_law_pen_here", "_law_early", "_law_late", "_law_many", "_law_left", "_law_rows", "_law_place", "_law_open_ones", "_law_at", "_law_rank"]
theorem sc_order : FnScope n_order ["_law_pen_here", "_law_early", "_law_late", "_law_many"] (defScope s_order) := ⟨rfl, rfl, rfl, by decide +kernel, rfl, by decide +kernel, by decide +kernel⟩
abbrev n_is_number : List Str := ["value", "beyond"]
theorem sc_is_number : FnScope n_is_number ["value", "beyond"] (defScope s_is_number) := ⟨rfl, rfl, rfl, by decide +kernel, rfl, by decide +kernel, by decide +kernel⟩
abbrev n_Store_init : List Str := ["self", "late"]
theorem sc_Store_init : FnScope n_Store_init ["self", "late"] (defScope s_Store_init) := ⟨rfl, rfl, rfl, by decide +kernel, rfl, by decide +kernel, by decide +kernel⟩
abbrev n_Store_put : List Str := ["self", "number", "rows"]
theorem sc_Store_put : FnScope n_Store_put ["self", "number"] (defScope s_Store_put) := ⟨rfl, rfl, rfl, by decide +kernel, rfl, by decide +kernel, by decide +kernel⟩
abbrev n_put : List Str := ["_law_store", "_law_number", "_law_found", "_law_what", "error"]
theorem sc_put : FnScope n_put ["_law_store", "_law_number"] (defScope s_put) := ⟨rfl, rfl, rfl, by decide +kernel, rfl, by decide +kernel, by decide +kernel⟩
abbrev n_run_right : List Str := ["_law_pen_here", "_law_early", "_law_late", "_law_many", "_law_order_here", "_law_store", "_law_out", "_law_number", "_law_told", "_law_small"]
theorem sc_run_right : FnScope n_run_right ["_law_pen_here"] (defScope s_run_right) := ⟨rfl, rfl, rfl, by decide +kernel, rfl, by decide +kernel, by decide +kernel⟩
abbrev n_made_right : List Str := ["_law_pen_here", "_law_what", "_law_odd", "error"]
theorem sc_made_right : FnScope n_made_right ["_law_pen_here"] (defScope s_made_right) := ⟨rfl, rfl, rfl, by decide +kernel, rfl, by decide +kernel, by decide +kernel⟩
abbrev n_Store_len : List Str := ["self"]
theorem sc_Store_len : FnScope n_Store_len ["self"] (defScope s_Store_len) := ⟨rfl, rfl, rfl, by decide +kernel, rfl, by decide +kernel, by decide +kernel⟩
abbrev n_shown : List Str := ["_law_store"]
theorem sc_shown : FnScope n_shown ["_law_store"] (defScope s_shown) := ⟨rfl, rfl, rfl, by decide +kernel, rfl, by decide +kernel, by decide +kernel⟩
abbrev n_steps_right : List Str := ["_law_pen_here", "_law_late", "_law_numbers", "_law_store", "_law_rows", "_law_last", "_law_places", "_law_number", "_law_told", "_law_due", "_law_odd"]
theorem sc_steps_right : FnScope n_steps_right ["_law_pen_here", "_law_late", "_law_numbers"] (defScope s_steps_right) := ⟨rfl, rfl, rfl, by decide +kernel, rfl, by decide +kernel, by decide +kernel⟩
abbrev n_law : List Str := ["_law_script", "_law_pen_here", "_law_way", "_law_late", "_law_many", "_law_most", "_law_numbers", "_law_at", "_law_one"]
theorem sc_law : FnScope n_law ["_law_script"] (defScope s_law) := ⟨rfl, rfl, rfl, by decide +kernel, rfl, by decide +kernel, by decide +kernel⟩
/-! ### tables -/
def tab_int : List (Tag × Tag × Bool) := [((.ty "NoneType"), (.ty "int"), false), ((.ty "bool"), (.ty "int"), true), ((.ty "int"), (.ty "int"), true), ((.ty "str"), (.ty "int"), false), ((.ty "tuple"), (.ty "int"), false), ((.ty "list"), (.ty "int"), false)]
def tab_bool : List (Tag × Tag × Bool) := [((.ty "NoneType"), (.ty "bool"), false), ((.ty "bool"), (.ty "bool"), true), ((.ty "int"), (.ty "bool"), false), ((.ty "str"), (.ty "bool"), false), ((.ty "tuple"), (.ty "bool"), false), ((.ty "list"), (.ty "bool"), false)]
/-! ### what its defs compute -/
def f_pen_0 : SV := (sRet (eLst (aCons (eCallV gList (aCons (eSl (eVar 0) oNone (oSome (eK (.int 63)))) aNil)) (aCons (eK (.int 0)) (aCons (eK (.int 0)) aNil)))))
def v_pen : EV := bodyV 0 f_pen_0
def f_draw_8 : SV := (sRet (eOp2 gMod (eCallV gInt (aCons (eOp2 gDiv (eVar 6) (eK (.int 32))) aNil)) (eVar 1)))
def f_draw_7 : SV := (sSeq (sAsg 6 (eOp2 gMod (eCallV gInt (aCons (eOp2 gPow (eOp2 gAdd (eOp2 gAdd (eOp2 gMul (eVar 6) (eOp2 gAdd (eOp2 gMul (eK (.int 2)) (eVar 3)) (eK (.int 541)))) (eOp2 gMul (eOp2 gMul (eK (.int 64709)) (eVar 3)) (eVar 3))) (eK (.int 317))) (eK (.int 3))) aNil)) (eK (.int 2147483269)))) f_draw_8)
def f_draw_6 : SV := (sSeq (sAsg 6 (eOp2 gMod (eCallV gInt (aCons (eOp2 gPow (eOp2 gAdd (eOp2 gAdd (eOp2 gMod (eCallV gInt (aCons (eVar 4) aNil)) (eK (.int 2147483647))) (eOp2 gMul (eK (.int 43627)) (eVar 3))) (eK (.int 1489))) (eK (.int 5))) aNil)) (eK (.int 2147483497)))) f_draw_7)
def f_draw_5 : SV := (sSeq (sIf (tAndU (tVal (eOp2 gLt (eVar 3) (eCallV gLen (aCons (eOp2 gIdx (eVar 0) (eK (.int 0))) aNil)))) (tVal (eOp2 gGe (eCallV gAbs (aCons (eVar 4) aNil)) (eOp2 gPow (eK (.int 10)) (eK (.int 18)))))) (sSeq (sAsg 5 (eOp2 gSub (eCallV gAbs (aCons (eVar 4) aNil)) (eOp2 gPow (eK (.int 10)) (eK (.int 18)))))
    (sSeq (sSetI 0 (eOp2 gDiv (eCallV gInt (aCons (eVar 5) aNil)) (eVar 1)) (eK (.int 2)))
    (sRet (eOp2 gMod (eCallV gInt (aCons (eVar 5) aNil)) (eVar 1))))) sNext) f_draw_6)
def f_draw_4 : SV := (sSeq (sIf (tVal (eOp2 (gEq true) (eOp2 gIdx (eVar 0) (eK (.int 0))) (eLst aNil))) (sAsg 4 (eOp2 gIdx (eOp2 gIdx (eVar 0) (eK (.int 0))) (eOp2 gMod (eCallV gInt (aCons (eVar 3) aNil)) (eCallV gLen (aCons (eOp2 gIdx (eVar 0) (eK (.int 0))) aNil))))) sNext) f_draw_5)
def f_draw_3 : SV := (sSeq (sAsg 4 (eOp2 gAdd (eOp2 gMul (eK (.int 67939)) (eVar 3)) (eK (.int 2897)))) f_draw_4)
def f_draw_2 : SV := (sSeq (sSetI 0 (eOp2 gAdd (eVar 3) (eK (.int 1))) (eK (.int 1))) f_draw_3)
def f_draw_1 : SV := (sSeq (sAsg 3 (eOp2 gIdx (eVar 0) (eK (.int 1)))) f_draw_2)
def f_draw_0 : SV := (sSeq (sIf (tVal (eOp2 gGt (eOp2 gIdx (eVar 0) (eK (.int 2))) (eK (.int 0)))) (sSeq (sAsg 2 (eOp2 gMod (eCallV gInt (aCons (eOp2 gIdx (eVar 0) (eK (.int 2))) aNil)) (eVar 1)))
    (sSeq (sSetI 0 (eOp2 gDiv (eCallV gInt (aCons (eOp2 gIdx (eVar 0) (eK (.int 2))) aNil)) (eVar 1)) (eK (.int 2)))
    (sRet (eVar 2)))) sNext) f_draw_1)
def v_draw : EV := bodyV 5 f_draw_0
def f_pick_0 : SV := (sRet (eOp2 gIdx (eVar 1) (eCall 2 0 [.inl 0, .inl 1] [] v_draw (aCons (eVar 0) (aCons (eFz (eCallV gLen (aCons (eVar 1) aNil))) aNil)) aNil)))
def v_pick : EV := bodyV 0 f_pick_0
def c_order_74_29 : EV := (eVar 9)
def l_order_73_3 : SV := (sExpr (eLm lmAppend 5 (aCons (eLm lmPop 4 (aCons (eVar 8) aNil)) aNil)))
def l_order_73_2 : SV := (sSeq (sIf (tVal (eOp2 gLe (eOp2 gIdx (eVar 4) (eK (.int 0))) (eOp2 gSub (eVar 6) (eVar 2)))) (sAsg 8 (eK (.int 0))) sNext) l_order_73_3)
def l_order_73_1 : SV := (sSeq (sAsg 8 (eCall 2 0 [.inl 0, .inl 1] [] v_pick (aCons (eVar 0) (aCons (eFz (eLst (aCons (eK (.int 0)) (aCons (eOp2 gSub (eVar 7) (eK (.int 1))) (aCons (eCall 2 0 [.inl 0, .inl 1] [] v_draw (aCons (eVar 0) (aCons (eVar 7) aNil)) aNil) aNil))))) aNil)) aNil)) l_order_73_2)
def l_order_73_0 : SV := (sSeq (sAsg 7 (eCallV gLen (aCons (eComp [9] (gOne 9) (wSeq (eVar 4)) (tVal (eOp2 gLe (eVar 9) (eOp2 gAdd (eVar 6) (eVar 1)))) c_order_74_29) aNil))) l_order_73_1)
def f_order_2 : SV := (sRet (eVar 5))
def f_order_1 : SV := (sSeq (sFor (gOne 6) (wRng1 (aCons (eVar 3) aNil)) l_order_73_0) f_order_2)
def f_order_0 : SV := (sSeq (sPar [4, 5] (aCons (eListR1 (eOp2 gAdd (eVar 3) (eVar 1))) (aCons (eLst aNil) aNil))) f_order_1)
def v_order : EV := bodyV 6 f_order_0
def f_is_number_0 : SV := (sRet (eAnd (eCallV (gIsi tab_int) (aCons (eVar 0) (aCons (eK (.ty "int")) aNil))) (eAnd (eNot (eCallV (gIsi tab_bool) (aCons (eVar 0) (aCons (eK (.ty "bool")) aNil)))) (eChain gLe gLt (eK (.int 0)) (eVar 0) (eVar 1)))))
def v_is_number : EV := bodyV 0 f_is_number_0
def f_Store_init_4 : SV := (sSetF [3] "places" 0 (eK (.int 0)))
def f_Store_init_3 : SV := (sSeq (sSetF [3] "last" 0 (eK .non)) f_Store_init_4)
def f_Store_init_2 : SV := (sSeq (sSetF [3] "held" 0 (eTup aNil)) f_Store_init_3)
def f_Store_init_1 : SV := (sSeq (sSetF [3] "late" 0 (eVar 1)) f_Store_init_2)
def f_Store_init_0 : SV := (sSeq (sIf (tNotU (tTru (eCall 2 0 [.inl 0, .inl 1] [(.int 1000000000000000000000000000000000000000000000000000000000000)] v_is_number (aCons (eVar 1) (aCons (eFz (eOp2 gAdd (eK (.int 20)) (eK (.int 1)))) aNil)) aNil))) (sRaise 1 "not of its kind" ["what"] (aCons (eK (.str "late")) aNil)) sNext) f_Store_init_1)
def v_Store_init : EV := bodyV 0 f_Store_init_0
def f_Store_put_7 : SV := (sRet (eOp2 gIdx (eVar 2) (eK (.int 0))))
def f_Store_put_6 : SV := (sSeq (sSetF [3] "last" 0 (eOp2 gIdx (eVar 2) (eK (.int 0)))) f_Store_put_7)
def f_Store_put_5 : SV := (sSeq (sSetF [3] "held" 0 (eCallV gTuple (aCons (eSl (eVar 2) (oSome (eK (.int 1))) oNone) aNil))) f_Store_put_6)
def f_Store_put_4 : SV := (sSeq (sIf (tVal (eOp2 gLe (eCallV gLen (aCons (eVar 2) aNil)) (eOp1 (gFld [3] "late") (eVar 0)))) (sSeq (sSetF [3] "held" 0 (eCallV gTuple (aCons (eVar 2) aNil)))
    (sRet (eK .non))) sNext) f_Store_put_5)
def f_Store_put_3 : SV := (sSeq (sAugF [3] gAddI "places" 0 (eK (.int 1))) f_Store_put_4)
def f_Store_put_2 : SV := (sSeq (sAsg 2 (eCallV gSorted (aCons (eLst (aStar (eOp1 (gFld [3] "held") (eVar 0)) (aCons (eVar 1) aNil))) aNil))) f_Store_put_3)
def f_Store_put_1 : SV := (sSeq (sIf (tAndU (tVal (eOp2 (gIsN true) (eOp1 (gFld [3] "last") (eVar 0)) (eK .non))) (tVal (eOp2 gLt (eVar 1) (eOp1 (gFld [3] "last") (eVar 0))))) (sRaise 2 "no run fits" ["place"] (aCons (eOp1 (gFld [3] "places") (eVar 0)) aNil)) sNext) f_Store_put_2)
def f_Store_put_0 : SV := (sSeq (sIf (tNotU (tTru (eCall 1 0 [.inl 0, .inr 0] [(.int 1000000000000000000000000000000000000000000000000000000000000)] v_is_number (aCons (eVar 1) aNil) aNil))) (sRaise 1 "not of its kind" ["what"] (aCons (eK (.str "number")) aNil)) sNext) f_Store_put_1)
def v_Store_put : EV := bodyV 1 f_Store_put_0
def f_put_3 : SV := (sRet (eTup (aCons (eK (.str "put")) (aCons (eVar 2) aNil))))
def f_put_2 : SV := (sSeq (sIf (tVal (eOp2 (gIsN true) (eVar 3) (eK .non))) (sRet (eVar 3)) sNext) f_put_3)
def f_put_1 : SV := (sSeq (sTry (sAsg 2 (eMeth 3 "put" 0 1 [.inl 0, .inl 1] [] v_Store_put (eVar 0) aNil (aCons (eVar 1) aNil))) (⟨lkB [(0, false), (1, false), (2, true)], (some 4), fun er => (sAsg 3 (eTup (aCons (eK (.str "unfit")) (aCons (eXf [2] 4 "place" er) aNil))))⟩ :: (⟨lkB [(0, false), (1, true), (2, false)], (some 4), fun er => (sAsg 3 (eTup (aCons (eK (.str "bad")) (aCons (eXf [1] 4 "what" er) aNil))))⟩ :: []))) f_put_2)
def f_put_0 : SV := (sSeq (sPar [2, 3] (aCons (eK .non) (aCons (eK .non) aNil))) f_put_1)
def v_put : EV := bodyV 3 f_put_0
def l_run_right_116_2 : SV := (sIf (tVal (eOp2 (gIsN true) (eOp2 gIdx (eVar 8) (eK (.int 1))) (eK .non))) (sExpr (eLm lmAppend 6 (aCons (eOp2 gIdx (eVar 8) (eK (.int 1))) aNil))) sNext)
def l_run_right_116_1 : SV := (sSeq (sIf (tVal (eOp2 (gEq true) (eOp2 gIdx (eVar 8) (eK (.int 0))) (eK (.str "put")))) (sRet (eK (.bl false))) sNext) l_run_right_116_2)
def l_run_right_116_0 : SV := (sSeq (sAsg 8 (eCall 2 0 [.inl 0, .inl 1] [] v_put (aCons (eVar 5) (aCons (eVar 7) aNil)) aNil)) l_run_right_116_1)
def l_run_right_125_0 : SV := (sIf (tVal (eOp2 (gEq true) (eOp2 gIdx (eCall 2 0 [.inl 0, .inl 1] [] v_put (aCons (eVar 9) (aCons (eVar 7) aNil)) aNil) (eK (.int 0))) (eK (.str "put")))) (sRet (eK (.bl false))) sNext)
def f_run_right_7 : SV := (sRet (eAnd (eOp2 (gEq false) (eCall 2 0 [.inl 0, .inl 1] [] v_put (aCons (eVar 9) (aCons (eFz (eK (.int 0))) aNil)) aNil) (eTup (aCons (eK (.str "unfit")) (aCons (eVar 2) aNil)))) (eOp2 (gEq false) (eCall 2 0 [.inl 0, .inl 1] [] v_put (aCons (eVar 9) (aCons (eFz (eOp2 gAdd (eVar 2) (eK (.int 1)))) aNil)) aNil) (eTup (aCons (eK (.str "put")) (aCons (eK (.int 2)) aNil))))))
def f_run_right_6 : SV := (sSeq (sFor (gOne 7) (wSeq (eListR2 (eK (.int 1)) (eOp2 gAdd (eVar 2) (eK (.int 1))))) l_run_right_125_0) f_run_right_7)
def f_run_right_5 : SV := (sSeq (sAsg 9 (eMake 3 1 0 [.inl 0, .inl 1] [] v_Store_init (aCons (eFz (eOp2 gSub (eVar 2) (eK (.int 1)))) aNil) aNil)) f_run_right_6)
def f_run_right_4 : SV := (sSeq (sIf (tOrU (tVal (eOp2 (gEq true) (eVar 6) (eListR1 (eOp2 gSub (eVar 3) (eVar 2))))) (tVal (eOp2 (gEq true) (eCallV gList (aCons (eOp1 (gFld [3] "held") (eVar 5)) aNil)) (eSl (eCallV gSorted (aCons (eVar 4) aNil)) (oSome (eOp2 gSub (eVar 3) (eVar 2))) oNone)))) (sRet (eK (.bl false))) sNext) f_run_right_5)
def f_run_right_3 : SV := (sSeq (sFor (gOne 7) (wSeq (eVar 4)) l_run_right_116_0) f_run_right_4)
def f_run_right_2 : SV := (sSeq (sPar [5, 6] (aCons (eMake 3 1 0 [.inl 0, .inl 1] [] v_Store_init (aCons (eVar 2) aNil) aNil) (aCons (eLst aNil) aNil))) f_run_right_3)
def f_run_right_1 : SV := (sSeq (sAsg 4 (eCall 4 0 [.inl 0, .inl 1, .inl 2, .inl 3] [] v_order (aCons (eVar 0) (aCons (eVar 1) (aCons (eVar 2) (aCons (eVar 3) aNil)))) aNil)) f_run_right_2)
def f_run_right_0 : SV := (sSeq (sPar [1, 2, 3] (aCons (eOp2 gAdd (eK (.int 1)) (eCall 2 0 [.inl 0, .inl 1] [] v_draw (aCons (eVar 0) (aCons (eFz (eK (.int 4))) aNil)) aNil)) (aCons (eOp2 gAdd (eK (.int 1)) (eCall 2 0 [.inl 0, .inl 1] [] v_draw (aCons (eVar 0) (aCons (eFz (eK (.int 6))) aNil)) aNil)) (aCons (eK (.int 20)) aNil)))) f_run_right_1)
def v_run_right : EV := bodyV 9 f_run_right_0
def f_made_right_2 : SV := (sRet (eOp2 (gEq false) (eVar 1) (eTup (aCons (eK (.bl true)) (aCons (eK (.str "late")) aNil)))))
def f_made_right_1 : SV := (sSeq (sTry (sExpr (eMake 3 1 0 [.inl 0, .inl 1] [] v_Store_init (aCons (eVar 2) aNil) aNil)) (⟨lkB [(0, false), (1, true), (2, false)], (some 3), fun er => (sAsg 1 (eTup (aCons (eIsX [((.cl 1), (.cl 0), true)] 3 er (.cl 0)) (aCons (eXf [1] 3 "what" er) aNil))))⟩ :: [])) f_made_right_2)
def f_made_right_0 : SV := (sSeq (sPar [1, 2] (aCons (eK .non) (aCons (eCall 2 0 [.inl 0, .inl 1] [] v_pick (aCons (eVar 0) (aCons (eFz (eLst (aCons (eOp1 gNeg (eK (.int 1))) (aCons (eK (.int 21)) (aCons (eK (.bl true)) (aCons (eK .non) (aCons (eK (.str "1")) (aCons (eTup (aCons (eK (.int 0)) aNil)) aNil)))))))) aNil)) aNil) aNil))) f_made_right_1)
def v_made_right : EV := bodyV 3 f_made_right_0
def f_Store_len_0 : SV := (sRet (eCallV gLen (aCons (eOp1 (gFld [3] "held") (eVar 0)) aNil)))
def v_Store_len : EV := bodyV 0 f_Store_len_0
def f_shown_0 : SV := (sRet (eTup (aCons (eOp1 (gFld [3] "late") (eVar 0)) (aCons (eOp1 (gFld [3] "held") (eVar 0)) (aCons (eOp1 (gFld [3] "last") (eVar 0)) (aCons (eOp1 (gFld [3] "places") (eVar 0)) (aCons (eLenO 3 v_Store_len (eVar 0)) aNil)))))))
def v_shown : EV := bodyV 0 f_shown_0
def l_steps_right_95_2 : SV := (sIf (tVal (eOp2 (gEq true) (eCallV gRepr (aCons (eCall 1 0 [.inl 0] [] v_shown (aCons (eVar 3) aNil) aNil) aNil)) (eCallV gRepr (aCons (eTup (aCons (eVar 1) (aCons (eCallV gTuple (aCons (eVar 4) aNil)) (aCons (eVar 5) (aCons (eVar 6) (aCons (eCallV gLen (aCons (eVar 4) aNil)) aNil)))))) aNil)))) (sRet (eK (.bl false))) sNext)
def l_steps_right_95_1 : SV := (sSeq (sIf (tAndU (tVal (eOp2 (gIsN true) (eVar 5) (eK .non))) (tVal (eOp2 gLt (eVar 7) (eVar 5)))) (sIf (tVal (eOp2 (gEq true) (eCallV gRepr (aCons (eVar 8) aNil)) (eCallV gRepr (aCons (eTup (aCons (eK (.str "unfit")) (aCons (eVar 6) aNil))) aNil)))) (sRet (eK (.bl false))) sNext) (sSeq (sPar [4, 6, 9] (aCons (eCallV gSorted (aCons (eOp2 gAdd (eVar 4) (eLst (aCons (eVar 7) aNil))) aNil)) (aCons (eOp2 gAdd (eVar 6) (eK (.int 1))) (aCons (eK .non) aNil))))
      (sSeq (sIf (tVal (eOp2 gGt (eCallV gLen (aCons (eVar 4) aNil)) (eVar 1))) (sSeq (sAsg 9 (eOp2 gIdx (eVar 4) (eK (.int 0))))
        (sPar [4, 5] (aCons (eSl (eVar 4) (oSome (eK (.int 1))) oNone) (aCons (eVar 9) aNil)))) sNext)
      (sIf (tVal (eOp2 (gEq true) (eCallV gRepr (aCons (eVar 8) aNil)) (eCallV gRepr (aCons (eTup (aCons (eK (.str "put")) (aCons (eVar 9) aNil))) aNil)))) (sRet (eK (.bl false))) sNext)))) l_steps_right_95_2)
def l_steps_right_95_0 : SV := (sSeq (sAsg 8 (eCall 2 0 [.inl 0, .inl 1] [] v_put (aCons (eVar 3) (aCons (eVar 7) aNil)) aNil)) l_steps_right_95_1)
def f_steps_right_4 : SV := (sRet (eAnd (eOp2 (gEq false) (eCall 2 0 [.inl 0, .inl 1] [] v_put (aCons (eVar 3) (aCons (eVar 10) aNil)) aNil) (eTup (aCons (eK (.str "bad")) (aCons (eK (.str "number")) aNil)))) (eOp2 (gEq false) (eCallV gRepr (aCons (eCall 1 0 [.inl 0] [] v_shown (aCons (eVar 3) aNil) aNil) aNil)) (eCallV gRepr (aCons (eVar 8) aNil)))))
def f_steps_right_3 : SV := (sSeq (sAsg 8 (eCall 1 0 [.inl 0] [] v_shown (aCons (eVar 3) aNil) aNil)) f_steps_right_4)
def f_steps_right_2 : SV := (sSeq (sAsg 10 (eCall 2 0 [.inl 0, .inl 1] [] v_pick (aCons (eVar 0) (aCons (eFz (eLst (aCons (eK .non) (aCons (eK (.bl true)) (aCons (eOp1 gNeg (eK (.int 1))) (aCons (eOp2 gPow (eK (.int 10)) (eK (.int 60))) (aCons (eK (.str "7")) (aCons (eTup (aCons (eK (.int 3)) aNil)) (aCons (eLst (aCons (eK (.int 3)) aNil)) aNil))))))))) aNil)) aNil)) f_steps_right_3)
def f_steps_right_1 : SV := (sSeq (sFor (gOne 7) (wSeq (eVar 2)) l_steps_right_95_0) f_steps_right_2)
def f_steps_right_0 : SV := (sSeq (sPar [3, 4, 5, 6] (aCons (eMake 3 0 1 [.inl 0, .inl 1] [] v_Store_init aNil (aCons (eVar 1) aNil)) (aCons (eLst aNil) (aCons (eK .non) (aCons (eK (.int 0)) aNil))))) f_steps_right_1)
def v_steps_right : EV := bodyV 8 f_steps_right_0
def c_law_142_19 : EV := (eOp2 gAdd (eCall 2 0 [.inl 0, .inl 1] [] v_draw (aCons (eVar 1) (aCons (eVar 5) aNil)) aNil) (eVar 7))
def c_law_144_23 : EV := (eOp2 gAdd (eOp2 gMul (eCallV gInt (aCons (eVar 8) aNil)) (eOp2 gPow (eK (.int 10)) (eK (.int 39)))) (eVar 7))
def f_law_6 : SV := (sRet (eCall 3 0 [.inl 0, .inl 1, .inl 2] [] v_steps_right (aCons (eVar 1) (aCons (eFz (eCall 2 0 [.inl 0, .inl 1] [] v_pick (aCons (eVar 1) (aCons (eFz (eLst (aCons (eVar 3) (aCons (eOp2 gMod (eCallV gInt (aCons (eVar 3) aNil)) (eK (.int 4))) aNil)))) aNil)) aNil)) (aCons (eVar 6) aNil))) aNil))
def f_law_5 : SV := (sSeq (sIf (tVal (eOp2 (gEq false) (eVar 2) (eK (.int 2)))) (sAsg 6 (eComp [7, 8] (gMany [7, 8]) (wEnum (aCons (eVar 6) aNil)) tYesU c_law_144_23)) sNext) f_law_6)
def f_law_4 : SV := (sSeq (sAsg 6 (eComp [7] (gOne 7) (wRng1 (aCons (eVar 4) aNil)) tYesU c_law_142_19)) f_law_5)
def f_law_3 : SV := (sSeq (sAsg 5 (eOp2 gIdx (eLst (aCons (eK (.int 6)) (aCons (eK (.int 40)) (aCons (eOp2 gPow (eK (.int 10)) (eK (.int 20))) aNil)))) (eVar 2))) f_law_4)
def f_law_2 : SV := (sSeq (sIf (tVal (eOp2 (gEq false) (eVar 2) (eK (.int 3)))) (sRet (eAnd (eCall 1 0 [.inl 0] [] v_run_right (aCons (eVar 1) aNil) aNil) (eCall 1 0 [.inl 0] [] v_made_right (aCons (eVar 1) aNil) aNil))) sNext) f_law_3)
def f_law_1 : SV := (sSeq (sPar [2, 3, 4] (aCons (eCall 2 0 [.inl 0, .inl 1] [] v_draw (aCons (eVar 1) (aCons (eFz (eK (.int 4))) aNil)) aNil) (aCons (eCall 2 0 [.inl 0, .inl 1] [] v_draw (aCons (eVar 1) (aCons (eFz (eK (.int 21))) aNil)) aNil) (aCons (eCall 2 0 [.inl 0, .inl 1] [] v_draw (aCons (eVar 1) (aCons (eFz (eK (.int 25))) aNil)) aNil) aNil)))) f_law_2)
def f_law_0 : SV := (sSeq (sAsg 1 (eCall 1 0 [.inl 0] [] v_pen (aCons (eVar 0) aNil) aNil)) f_law_1)
def v_law : EV := bodyV 8 f_law_0
/-! ### what the top has written -/
structure Ad where
  f : Nat → Addr
  c : Nat → Addr
  d : Nat → FuncData
  cc : Nat → Addr
  cd : Nat → Addr
abbrev gl (A : Ad) : Glob := { g0 := ⟨A.f, A.c⟩, xa := 0, xd := 0, xe := .non }
structure Txt (P : Program) (K : PySem.W.Frag) (mg : Str → Option Value) (A : Ad) : Prop where
  m_PostError : mg "PostError" = some (.ref (A.c 0))
  m_BadValue : mg "BadValue" = some (.ref (A.c 1))
  m_Unfit : mg "Unfit" = some (.ref (A.c 2))
  m_Store : mg "Store" = some (.ref (A.c 3))
  m__law_pen : mg "_law_pen" = some (.ref (A.f 0))
  m__law_draw : mg "_law_draw" = some (.ref (A.f 1))
  m__law_pick : mg "_law_pick" = some (.ref (A.f 2))
  m__law_order : mg "_law_order" = some (.ref (A.f 3))
  m_is_number : mg "is_number" = some (.ref (A.f 4))
  m__law_put : mg "_law_put" = some (.ref (A.f 7))
  m__law_run_right : mg "_law_run_right" = some (.ref (A.f 8))
  m__law_made_right : mg "_law_made_right" = some (.ref (A.f 9))
  m__law_shown : mg "_law_shown" = some (.ref (A.f 11))
  m__law_steps_right : mg "_law_steps_right" = some (.ref (A.f 12))
  d_pen : DefAt K (A.f 0) "_law_pen" "_law_pen" s_pen [] (A.d 0)
  d_draw : DefAt K (A.f 1) "_law_draw" "_law_draw" s_draw [] (A.d 1)
  d_pick : DefAt K (A.f 2) "_law_pick" "_law_pick" s_pick [] (A.d 2)
  d_order : DefAt K (A.f 3) "_law_order" "_law_order" s_order [] (A.d 3)
  d_is_number : DefAt K (A.f 4) "is_number" "is_number" s_is_number [(V.int 1000000000000000000000000000000000000000000000000000000000000)] (A.d 4)
  d_Store_init : DefAt K (A.f 5) "__init__" "Store.__init__" s_Store_init [] (A.d 5)
  d_Store_put : DefAt K (A.f 6) "put" "Store.put" s_Store_put [] (A.d 6)
  d_put : DefAt K (A.f 7) "_law_put" "_law_put" s_put [] (A.d 7)
  d_run_right : DefAt K (A.f 8) "_law_run_right" "_law_run_right" s_run_right [] (A.d 8)
  d_made_right : DefAt K (A.f 9) "_law_made_right" "_law_made_right" s_made_right [] (A.d 9)
  d_Store_len : DefAt K (A.f 10) "__len__" "Store.__len__" s_Store_len [] (A.d 10)
  d_shown : DefAt K (A.f 11) "_law_shown" "_law_shown" s_shown [] (A.d 11)
  d_steps_right : DefAt K (A.f 12) "_law_steps_right" "_law_steps_right" s_steps_right [] (A.d 12)
  d_law : DefAt K (A.f 13) "law" "law" s_law [] (A.d 13)
  k_Store : Cls K (A.c 3)
  mk_Store : Mk K (A.c 3) (A.f 5)
  a_Store_late : NoAttr K (A.c 3) "late"
  a_Store_held : NoAttr K (A.c 3) "held"
  a_Store_last : NoAttr K (A.c 3) "last"
  a_Store_places : NoAttr K (A.c 3) "places"
  a_BadValue_what : NoAttr K (A.c 1) "what"
  a_Unfit_place : NoAttr K (A.c 2) "place"
  me_Store_put : Meth K (A.c 3) "put" (A.f 6)
  len_Store : PySem.W.findIn K (.ref (A.c 3)) "__len__" = some (some (.ref (A.f 10)))
  lenf_Store : PySem.W.isFn K (.ref (A.f 10)) = true
  n_list : mg "list" = none
  n_int : mg "int" = none
  n_len : mg "len" = none
  n_abs : mg "abs" = none
  n_range : mg "range" = none
  n_isinstance : mg "isinstance" = none
  n_bool : mg "bool" = none
  n_sorted : mg "sorted" = none
  n_tuple : mg "tuple" = none
  n_enumerate : mg "enumerate" = none
  n_repr : mg "repr" = none
  c_MOST_LATE : ∃ u, mg "MOST_LATE" = some u ∧ RelV (V.int 20) u
  su_BadValue : SupDef P K mg "__init__" "BadValue.__init__" (defArgs s_BadValue_init) (defBody s_BadValue_init) (defScope s_BadValue_init) (A.f 14) (A.c 1) (A.cc 1) (A.cd 1) (A.d 14)
  su_Unfit : SupDef P K mg "__init__" "Unfit.__init__" (defArgs s_Unfit_init) (defBody s_Unfit_init) (defScope s_Unfit_init) (A.f 15) (A.c 2) (A.cc 2) (A.cd 2) (A.d 15)
  su_PostError : SupDef P K mg "__init__" "PostError.__init__" (defArgs s_PostError_init) (defBody s_PostError_init) (defScope s_PostError_init) (A.f 16) (A.c 0) (A.cc 0) (A.cd 0) (A.d 16)
  o_BadValue : OexC K (A.c 1)
  in_BadValue : PySem.W.findIn K (.ref (A.c 1)) "__init__" = some (some (.ref (A.f 14)))
  ty_BadValue : PySem.W.typeIn K (.ref (A.f 14)) = some (.type "function")
  ec_BadValue : ErrC K (A.c 1) (A.c 0)
  ms_BadValue : PySem.W.mroIn K (A.c 1) (.ref (A.c 1)) = some true
  ss_BadValue : PySem.W.ks_superIn K (A.c 1) (A.c 1) "__init__" = some (some (.ref (A.f 16)))
  o_Unfit : OexC K (A.c 2)
  in_Unfit : PySem.W.findIn K (.ref (A.c 2)) "__init__" = some (some (.ref (A.f 15)))
  ty_Unfit : PySem.W.typeIn K (.ref (A.f 15)) = some (.type "function")
  ec_Unfit : ErrC K (A.c 2) (A.c 0)
  ms_Unfit : PySem.W.mroIn K (A.c 2) (.ref (A.c 2)) = some true
  ss_Unfit : PySem.W.ks_superIn K (A.c 2) (A.c 2) "__init__" = some (some (.ref (A.f 16)))
  ty_post : PySem.W.typeIn K (.ref (A.f 16)) = some (.type "function")
  fn_post : PySem.W.fnIn K (A.f 16) = true
  x_BadValue : XfC K (A.c 1)
  x_Unfit : XfC K (A.c 2)
  t_BadValue : ExT K (A.c 1)
  i_BadValue_PostError : PySem.W.kitOne K (.ref (A.c 1)) (.ref (A.c 0)) = some true
  ce_PostError_BadValue : PySem.W.exmOne K (.ref (A.c 0)) (.ref (A.c 1)) = some false
  ce_BadValue_BadValue : PySem.W.exmOne K (.ref (A.c 1)) (.ref (A.c 1)) = some true
  ce_Unfit_BadValue : PySem.W.exmOne K (.ref (A.c 2)) (.ref (A.c 1)) = some false
  ce_PostError_Unfit : PySem.W.exmOne K (.ref (A.c 0)) (.ref (A.c 2)) = some false
  ce_BadValue_Unfit : PySem.W.exmOne K (.ref (A.c 1)) (.ref (A.c 2)) = some false
  ce_Unfit_Unfit : PySem.W.exmOne K (.ref (A.c 2)) (.ref (A.c 2)) = some true
section
variable {P : Program} {w : World} {K : PySem.W.Frag} {mg : Str → Option Value} {base : Heap} {A : Ad}
theorem tabok_int (T : Txt P K mg A) : TabOk (gl A) K tab_int := tabOk0 ⟨(by first | rfl | decide +kernel | kernel_rfl), (by first | rfl | decide +kernel | kernel_rfl), (by first | rfl | decide +kernel | kernel_rfl), (by first | rfl | decide +kernel | kernel_rfl), (by first | rfl | decide +kernel | kernel_rfl), (by first | rfl | decide +kernel | kernel_rfl), trivial⟩ rfl
theorem tabok_bool (T : Txt P K mg A) : TabOk (gl A) K tab_bool := tabOk0 ⟨(by first | rfl | decide +kernel | kernel_rfl), (by first | rfl | decide +kernel | kernel_rfl), (by first | rfl | decide +kernel | kernel_rfl), (by first | rfl | decide +kernel | kernel_rfl), (by first | rfl | decide +kernel | kernel_rfl), (by first | rfl | decide +kernel | kernel_rfl), trivial⟩ rfl
theorem defsK_is_number : ∀ F, RepL (gl A) K F [(.int 1000000000000000000000000000000000000000000000000000000000000)] [(V.int 1000000000000000000000000000000000000000000000000000000000000)] := by intro F; simp [RepL, Rep]
theorem b_pen_1 (T : Txt P K mg A) : BindU K (A.d 0) ["_law_script"] 1 [] [.inl 0] [] := T.d_pen.bind0 rfl fun kV doc pm an cdv ct us ws cs h1 h2 h3 => match us, ws, h1, h2, h3 with | [a0], [], _, _, h => by cases h; rfl
theorem b_draw_2 (T : Txt P K mg A) : BindU K (A.d 1) ["_law_pen_here", "_law_many"] 2 [] [.inl 0, .inl 1] [] := T.d_draw.bind0 rfl fun kV doc pm an cdv ct us ws cs h1 h2 h3 => match us, ws, h1, h2, h3 with | [a0, a1], [], _, _, h => by cases h; rfl
theorem b_run_right_1 (T : Txt P K mg A) : BindU K (A.d 8) ["_law_pen_here"] 1 [] [.inl 0] [] := T.d_run_right.bind0 rfl fun kV doc pm an cdv ct us ws cs h1 h2 h3 => match us, ws, h1, h2, h3 with | [a0], [], _, _, h => by cases h; rfl
theorem b_order_4 (T : Txt P K mg A) : BindU K (A.d 3) ["_law_pen_here", "_law_early", "_law_late", "_law_many"] 4 [] [.inl 0, .inl 1, .inl 2, .inl 3] [] := T.d_order.bind0 rfl fun kV doc pm an cdv ct us ws cs h1 h2 h3 => match us, ws, h1, h2, h3 with | [a0, a1, a2, a3], [], _, _, h => by cases h; rfl
theorem b_pick_2 (T : Txt P K mg A) : BindU K (A.d 2) ["_law_pen_here", "_law_some"] 2 [] [.inl 0, .inl 1] [] := T.d_pick.bind0 rfl fun kV doc pm an cdv ct us ws cs h1 h2 h3 => match us, ws, h1, h2, h3 with | [a0, a1], [], _, _, h => by cases h; rfl
theorem b_Store_init_2 (T : Txt P K mg A) : BindU K (A.d 5) ["self", "late"] 2 [] [.inl 0, .inl 1] [] := T.d_Store_init.bind0 rfl fun kV doc pm an cdv ct us ws cs h1 h2 h3 => match us, ws, h1, h2, h3 with | [a0, a1], [], _, _, h => by cases h; rfl
theorem b_is_number_2 (T : Txt P K mg A) : BindU K (A.d 4) ["value", "beyond"] 2 [] [.inl 0, .inl 1] [(V.int 1000000000000000000000000000000000000000000000000000000000000)] := T.d_is_number.bindD (by decide) rfl fun Tt kV doc pm an cdv ct us ws its cs h1 h2 h0 h3 => match us, ws, its, h1, h2, h0, h3 with | [a0, a1], [], [i0], _, _, _, h => by cases h; exact ⟨_, rfl, rfl⟩
theorem b_put_2 (T : Txt P K mg A) : BindU K (A.d 7) ["_law_store", "_law_number"] 2 [] [.inl 0, .inl 1] [] := T.d_put.bind0 rfl fun kV doc pm an cdv ct us ws cs h1 h2 h3 => match us, ws, h1, h2, h3 with | [a0, a1], [], _, _, h => by cases h; rfl
theorem b_Store_put_1_number (T : Txt P K mg A) : BindU K (A.d 6) ["self", "number"] 1 ["number"] [.inl 0, .inl 1] [] := T.d_Store_put.bind0 rfl fun kV doc pm an cdv ct us ws cs h1 h2 h3 => match us, ws, h1, h2, h3 with | [a0], [w0], _, _, h => by cases h; rfl
theorem b_is_number_1 (T : Txt P K mg A) : BindU K (A.d 4) ["value", "beyond"] 1 [] [.inl 0, .inr 0] [(V.int 1000000000000000000000000000000000000000000000000000000000000)] := T.d_is_number.bindD (by decide) rfl fun Tt kV doc pm an cdv ct us ws its cs h1 h2 h0 h3 => match us, ws, its, h1, h2, h0, h3 with | [a0], [], [i0], _, _, _, h => by cases h; exact ⟨_, rfl, rfl⟩
theorem b_made_right_1 (T : Txt P K mg A) : BindU K (A.d 9) ["_law_pen_here"] 1 [] [.inl 0] [] := T.d_made_right.bind0 rfl fun kV doc pm an cdv ct us ws cs h1 h2 h3 => match us, ws, h1, h2, h3 with | [a0], [], _, _, h => by cases h; rfl
theorem b_steps_right_3 (T : Txt P K mg A) : BindU K (A.d 12) ["_law_pen_here", "_law_late", "_law_numbers"] 3 [] [.inl 0, .inl 1, .inl 2] [] := T.d_steps_right.bind0 rfl fun kV doc pm an cdv ct us ws cs h1 h2 h3 => match us, ws, h1, h2, h3 with | [a0, a1, a2], [], _, _, h => by cases h; rfl
theorem b_Store_init_1_late (T : Txt P K mg A) : BindU K (A.d 5) ["self", "late"] 1 ["late"] [.inl 0, .inl 1] [] := T.d_Store_init.bind0 rfl fun kV doc pm an cdv ct us ws cs h1 h2 h3 => match us, ws, h1, h2, h3 with | [a0], [w0], _, _, h => by cases h; rfl
theorem b_shown_1 (T : Txt P K mg A) : BindU K (A.d 11) ["_law_store"] 1 [] [.inl 0] [] := T.d_shown.bind0 rfl fun kV doc pm an cdv ct us ws cs h1 h2 h3 => match us, ws, h1, h2, h3 with | [a0], [], _, _, h => by cases h; rfl
theorem b_Store_len_1 (T : Txt P K mg A) : BindU K (A.d 10) ["self"] 1 [] [.inl 0] [] := T.d_Store_len.bind0 rfl fun kV doc pm an cdv ct us ws cs h1 h2 h3 => match us, ws, h1, h2, h3 with | [a0], [], _, _, h => by cases h; rfl
theorem e_post (T : Txt P K mg A) : FnR P w K mg base (L2.CX P w) 1 (A.f 16) (spPost K (A.c 0)) :=
  post_init T.su_PostError rfl (nscope_by (by decide +kernel)) rfl rfl rfl rfl rfl rfl rfl (fun a rest => by obtain ⟨oc, od, kV, doc, pm, an, ct, osl, e, lk⟩ := T.su_PostError.ex; rw [e]; cases rest <;> rfl) (fun L => rfl) (fun L => ⟨_, rfl⟩) (fun L => rfl)
theorem e_BadValue (T : Txt P K mg A) : FnOk P w K mg base (L2.CX P w) 2 (A.f 14) (A.d 14) ["self", "what"] (spErr (A.c 1) "not of its kind" ["what"]) :=
  err_init (N := ["self", "what", "__class__"]) T.su_BadValue rfl (nscope_by (by decide +kernel)) rfl rfl rfl rfl rfl rfl (fun L => rfl) (fun L => ⟨_, rfl⟩) T.ec_BadValue T.ms_BadValue T.ss_BadValue T.ty_post T.fn_post (e_post T) (fun A outer s H E => (pss_one (ps_ost (pvv 0) (pvv 1))))
    (fun vs H Q E h => by obtain ⟨a, ys, rfl, hl, _⟩ := h; show ys.length + 1 = _; rw [hl]; rfl) (fun vs H Q E h => sp_err1 T.o_BadValue T.a_BadValue_what h)
theorem eb_BadValue (T : Txt P K mg A) : Binds K (A.d 14) ["self", "what"] [] := sup_binds T.su_BadValue fun kV doc pm an ct us hl => match us, hl with | [_, _], _ => rfl
theorem e_Unfit (T : Txt P K mg A) : FnOk P w K mg base (L2.CX P w) 2 (A.f 15) (A.d 15) ["self", "place"] (spErr (A.c 2) "no run fits" ["place"]) :=
  err_init (N := ["self", "place", "__class__"]) T.su_Unfit rfl (nscope_by (by decide +kernel)) rfl rfl rfl rfl rfl rfl (fun L => rfl) (fun L => ⟨_, rfl⟩) T.ec_Unfit T.ms_Unfit T.ss_Unfit T.ty_post T.fn_post (e_post T) (fun A outer s H E => (pss_one (ps_ost (pvv 0) (pvv 1))))
    (fun vs H Q E h => by obtain ⟨a, ys, rfl, hl, _⟩ := h; show ys.length + 1 = _; rw [hl]; rfl) (fun vs H Q E h => sp_err1 T.o_Unfit T.a_Unfit_place h)
theorem eb_Unfit (T : Txt P K mg A) : Binds K (A.d 15) ["self", "place"] [] := sup_binds T.su_Unfit fun kV doc pm an ct us hl => match us, hl with | [_, _], _ => rfl
theorem p_pen (T : Txt P K mg A) : FnU (gl A) P w K mg base 1 (A.f 0) (A.d 0) ["_law_script"] v_pen :=
  T.d_pen.fnU sc_pen rfl fun cdv Ar outer s H E hr hgd =>
  (sb_one (ss_ret (se_lst (sa_cons (se_callTy cv_list T.n_list (sa_cons (se_sl (se_var 0) so_none (so_some se_int)) sa_nil)) (sa_cons se_int (sa_cons se_int sa_nil))))))
theorem p_draw (T : Txt P K mg A) : FnU (gl A) P w K mg base 1 (A.f 1) (A.d 1) ["_law_pen_here", "_law_many"] v_draw :=
  T.d_draw.fnU sc_draw rfl fun cdv Ar outer s H E hr hgd =>
  (sb_cons (ss_if (st_cmp c_gt (se_idx (se_var 0) se_int) se_int) (sb_cons (ss_set (i := 2) sc_draw.nd rfl (se_mod (se_callTy cv_int T.n_int (sa_cons (se_idx (se_var 0) se_int) sa_nil)) (se_var 1)))
    (sb_cons (ss_setI (se_div (se_callTy cv_int T.n_int (sa_cons (se_idx (se_var 0) se_int) sa_nil)) (se_var 1)) se_int (pvv 0))
    (sb_one (ss_ret (se_var 2))))) sb_nil)
  (sb_cons (ss_set (i := 3) sc_draw.nd rfl (se_idx (se_var 0) se_int))
  (sb_cons (ss_setI (se_add (se_var 3) se_int) se_int (pvv 0))
  (sb_cons (ss_set (i := 4) sc_draw.nd rfl (se_add (se_mul se_int (se_var 3)) se_int))
  (sb_cons (ss_if (st_cmp (c_ne (hr.units)) (se_idx (se_var 0) se_int) (se_lst sa_nil)) (sb_one (ss_set (i := 4) sc_draw.nd rfl (se_idx (se_idx (se_var 0) se_int) (se_mod (se_callTy cv_int T.n_int (sa_cons (se_var 3) sa_nil)) (se_callB cv_len T.n_len (sa_cons (se_idx (se_var 0) se_int) sa_nil)))))) sb_nil)
  (sb_cons (ss_if (st_w (sw_and (st_cmp c_lt (se_var 3) (se_callB cv_len T.n_len (sa_cons (se_idx (se_var 0) se_int) sa_nil))) (sw_and1 (st_cmp c_ge (se_callB cv_abs T.n_abs (sa_cons (se_var 4) sa_nil)) (se_pow se_int se_int))))) (sb_cons (ss_set (i := 5) sc_draw.nd rfl (se_sub (se_callB cv_abs T.n_abs (sa_cons (se_var 4) sa_nil)) (se_pow se_int se_int)))
    (sb_cons (ss_setI (se_div (se_callTy cv_int T.n_int (sa_cons (se_var 5) sa_nil)) (se_var 1)) se_int (pvv 0))
    (sb_one (ss_ret (se_mod (se_callTy cv_int T.n_int (sa_cons (se_var 5) sa_nil)) (se_var 1)))))) sb_nil)
  (sb_cons (ss_set (i := 6) sc_draw.nd rfl (se_mod (se_callTy cv_int T.n_int (sa_cons (se_pow (se_add (se_add (se_mod (se_callTy cv_int T.n_int (sa_cons (se_var 4) sa_nil)) se_int) (se_mul se_int (se_var 3))) se_int) se_int) sa_nil)) se_int))
  (sb_cons (ss_set (i := 6) sc_draw.nd rfl (se_mod (se_callTy cv_int T.n_int (sa_cons (se_pow (se_add (se_add (se_mul (se_var 6) (se_add (se_mul se_int (se_var 3)) se_int)) (se_mul (se_mul se_int (se_var 3)) (se_var 3))) se_int) se_int) sa_nil)) se_int))
  (sb_one (ss_ret (se_mod (se_callTy cv_int T.n_int (sa_cons (se_div (se_var 6) se_int) sa_nil)) (se_var 1))))))))))))
theorem p_pick (T : Txt P K mg A) : FnU (gl A) P w K mg base 2 (A.f 2) (A.d 2) ["_law_pen_here", "_law_some"] v_pick :=
  T.d_pick.fnU sc_pick rfl fun cdv Ar outer s H E hr hgd =>
  (sb_one (ss_ret (se_idx (se_var 1) (se_call (p_draw T) (hr.mono (by decide)) hgd takesB rfl T.m__law_draw T.d_draw.kp (b_draw_2 T) defs0 (sa_cons (se_var 0) (sa_cons (se_fz (se_callB cv_len T.n_len (sa_cons (se_var 1) sa_nil))) sa_nil))))))
theorem p_order (T : Txt P K mg A) : FnU (gl A) P w K mg base 3 (A.f 3) (A.d 3) ["_law_pen_here", "_law_early", "_law_late", "_law_many"] v_order :=
  T.d_order.fnU sc_order rfl fun cdv Ar outer s H E hr hgd =>
  (sb_cons (ss_par2 rfl sc_order.nd rfl rfl (by decide) (sa_cons (se_listR1 rfl T.n_list T.n_range (se_add (se_var 3) (se_var 1))) (sa_cons (se_lst sa_nil) sa_nil)))
  (sb_cons (ss_for passB rfl (si_rng1 T.n_range (sa_cons (se_var 3) sa_nil)) (sg_one (i := 6) sc_order.nd rfl) (sb_cons (ss_set (i := 7) sc_order.nd rfl (se_callB cv_len T.n_len (sa_cons (se_comp (own := [("_law_rank", 9)]) rfl sc_order.nd (si_seq (se_var 4)) (by show BlkOk n_order (defScope s_order) _ _; exact ⟨rfl, by decide +kernel, by decide +kernel, by decide +kernel, by decide +kernel⟩) (tg_one 9) (by decide) (fun _ _ _ _ _ => pgn (i := 9) sc_order.nd) (fun _ _ _ _ _ => (pts1 (st_cmp c_le (se_var 9) (se_add (se_var 6) (se_var 1))))) (fun _ _ _ _ _ => (se_var 9))) sa_nil)))
    (sb_cons (ss_set (i := 8) sc_order.nd rfl (se_call (p_pick T) (hr.mono (by decide)) hgd takesB rfl T.m__law_pick T.d_pick.kp (b_pick_2 T) defs0 (sa_cons (se_var 0) (sa_cons (se_fz (se_lst (sa_cons se_int (sa_cons (se_sub (se_var 7) se_int) (sa_cons (se_call (p_draw T) (hr.mono (by decide)) hgd takesB rfl T.m__law_draw T.d_draw.kp (b_draw_2 T) defs0 (sa_cons (se_var 0) (sa_cons (se_var 7) sa_nil))) sa_nil))))) sa_nil))))
    (sb_cons (ss_if (st_cmp c_le (se_idx (se_var 4) se_int) (se_sub (se_var 6) (se_var 2))) (sb_one (ss_set (i := 8) sc_order.nd rfl se_int)) sb_nil)
    (sb_one (ss_expr (se_lm lm_append PySem.F.slot_list_append PySem.F.type_list_append (pvv 5) (sa_cons (se_lm lm_pop PySem.F.slot_list_pop PySem.F.type_list_pop (pvv 4) (sa_cons (se_var 8) sa_nil)) sa_nil))))))))
  (sb_one (ss_ret (se_var 5)))))
theorem p_is_number (T : Txt P K mg A) : FnU (gl A) P w K mg base 1 (A.f 4) (A.d 4) ["value", "beyond"] v_is_number :=
  T.d_is_number.fnU sc_is_number rfl fun cdv Ar outer s H E hr hgd =>
  (sb_one (ss_ret (se_and (se_callB (cv_isi (tabok_int T)) T.n_isinstance (sa_cons (se_var 0) (sa_cons (se_type T.n_int) sa_nil))) (se_and (se_not (se_callB (cv_isi (tabok_bool T)) T.n_isinstance (sa_cons (se_var 0) (sa_cons (se_type T.n_bool) sa_nil)))) (se_one (se_chain c_le c_lt se_int (se_var 0) (se_var 1)))))))
theorem p_Store_init (T : Txt P K mg A) : FnU (gl A) P w K mg base 4 (A.f 5) (A.d 5) ["self", "late"] v_Store_init :=
  T.d_Store_init.fnU sc_Store_init rfl fun cdv Ar outer s H E hr hgd =>
  (sb_cons (ss_if (st_not (st_tru (se_call (p_is_number T) (hr.mono (by decide)) hgd takesB rfl T.m_is_number T.d_is_number.kp (b_is_number_2 T) (defsK_is_number) (sa_cons (se_var 1) (sa_cons (se_fz (se_add (se_globE T.c_MOST_LATE (fun F => by unfold Rep; rfl)) se_int)) sa_nil))))) (sb_one (ss_raise rfl takesB T.o_BadValue T.in_BadValue T.ty_BadValue (e_BadValue T) (hr.mono (by decide)) (eb_BadValue T) rfl T.m_BadValue (sa_cons se_str sa_nil))) sb_nil)
  (sb_cons (ss_setF (se_var 1) (pvv 0) (all1 ⟨T.k_Store, T.a_Store_late⟩ all0))
  (sb_cons (ss_setF (se_tup sa_nil) (pvv 0) (all1 ⟨T.k_Store, T.a_Store_held⟩ all0))
  (sb_cons (ss_setF se_non (pvv 0) (all1 ⟨T.k_Store, T.a_Store_last⟩ all0))
  (sb_one (ss_setF se_int (pvv 0) (all1 ⟨T.k_Store, T.a_Store_places⟩ all0)))))))
theorem p_Store_put (T : Txt P K mg A) : FnU (gl A) P w K mg base 4 (A.f 6) (A.d 6) ["self", "number"] v_Store_put :=
  T.d_Store_put.fnU sc_Store_put rfl fun cdv Ar outer s H E hr hgd =>
  (sb_cons (ss_if (st_not (st_tru (se_call (p_is_number T) (hr.mono (by decide)) hgd takesB rfl T.m_is_number T.d_is_number.kp (b_is_number_1 T) (defsK_is_number) (sa_cons (se_var 1) sa_nil)))) (sb_one (ss_raise rfl takesB T.o_BadValue T.in_BadValue T.ty_BadValue (e_BadValue T) (hr.mono (by decide)) (eb_BadValue T) rfl T.m_BadValue (sa_cons se_str sa_nil))) sb_nil)
  (sb_cons (ss_if (st_w (sw_and (st_cmp c_notN (se_fld (se_var 0) (all1 ⟨T.k_Store, T.a_Store_last⟩ all0)) se_non) (sw_and1 (st_cmp c_lt (se_var 1) (se_fld (se_var 0) (all1 ⟨T.k_Store, T.a_Store_last⟩ all0)))))) (sb_one (ss_raise rfl takesB T.o_Unfit T.in_Unfit T.ty_Unfit (e_Unfit T) (hr.mono (by decide)) (eb_Unfit T) rfl T.m_Unfit (sa_cons (se_fld (se_var 0) (all1 ⟨T.k_Store, T.a_Store_places⟩ all0)) sa_nil))) sb_nil)
  (sb_cons (ss_set (i := 2) sc_Store_put.nd rfl (se_callB cv_sorted T.n_sorted (sa_cons (se_lst (sa_star (se_fld (se_var 0) (all1 ⟨T.k_Store, T.a_Store_held⟩ all0)) (sa_cons (se_var 1) sa_nil))) sa_nil)))
  (sb_cons (ss_augF in_add rI0_add se_int (pvv 0) (all1 ⟨T.k_Store, T.a_Store_places⟩ all0))
  (sb_cons (ss_if (st_cmp c_le (se_callB cv_len T.n_len (sa_cons (se_var 2) sa_nil)) (se_fld (se_var 0) (all1 ⟨T.k_Store, T.a_Store_late⟩ all0))) (sb_cons (ss_setF (se_callTy cv_tuple T.n_tuple (sa_cons (se_var 2) sa_nil)) (pvv 0) (all1 ⟨T.k_Store, T.a_Store_held⟩ all0))
    (sb_one (ss_ret se_non))) sb_nil)
  (sb_cons (ss_setF (se_callTy cv_tuple T.n_tuple (sa_cons (se_sl (se_var 2) (so_some se_int) so_none) sa_nil)) (pvv 0) (all1 ⟨T.k_Store, T.a_Store_held⟩ all0))
  (sb_cons (ss_setF (se_idx (se_var 2) se_int) (pvv 0) (all1 ⟨T.k_Store, T.a_Store_last⟩ all0))
  (sb_one (ss_ret (se_idx (se_var 2) se_int))))))))))
theorem p_put (T : Txt P K mg A) : FnU (gl A) P w K mg base 5 (A.f 7) (A.d 7) ["_law_store", "_law_number"] v_put :=
  T.d_put.fnU sc_put rfl fun cdv Ar outer s H E hr hgd =>
  (sb_cons (ss_parT rfl (sa_cons se_non (sa_cons se_non sa_nil)) (PGs.names_cons (i := 2) sc_put.nd rfl (PGs.names_cons (i := 3) sc_put.nd rfl PGs.names_nil)))
  (sb_cons (ss_try rfl rfl sc_put.nd takesB (fun W1 pn1 xe1 tk1 ps1 => (sb_one (ss_set (i := 2) sc_put.nd rfl (se_methK0 (ks := ["number"]) (se_var 0) T.k_Store T.me_Store_put (p_Store_put T) (hr.mono (by decide)) hgd tk1 (b_Store_put_1_number T) defs0 (sk_cons (se_var 1) sk_nil)))))
  (HsS.cons (c := ⟨lkB [(0, false), (1, false), (2, true)], (some 4), fun er => (sAsg 3 (eTup (aCons (eK (.str "unfit")) (aCons (eXf [2] 4 "place" er) aNil))))⟩) ⟨rfl, by decide, .inl T.m_Unfit⟩ ⟨rfl, rfl⟩ (lkB_ok ⟨T.ce_PostError_Unfit, ⟨T.ce_BadValue_Unfit, ⟨T.ce_Unfit_Unfit, trivial⟩⟩⟩) (fun a oe dx pn kx kxs kds hk hz hf => (sb_one (ss_set (i := 3) sc_put.nd rfl (se_tup (sa_cons se_str (sa_cons (se_xf hz hf (all1 ⟨T.x_Unfit, T.a_Unfit_place⟩ all0) (pvv 4) rfl) sa_nil))))))
  (HsS.cons (c := ⟨lkB [(0, false), (1, true), (2, false)], (some 4), fun er => (sAsg 3 (eTup (aCons (eK (.str "bad")) (aCons (eXf [1] 4 "what" er) aNil))))⟩) ⟨rfl, by decide, .inl T.m_BadValue⟩ ⟨rfl, rfl⟩ (lkB_ok ⟨T.ce_PostError_BadValue, ⟨T.ce_BadValue_BadValue, ⟨T.ce_Unfit_BadValue, trivial⟩⟩⟩) (fun a oe dx pn kx kxs kds hk hz hf => (sb_one (ss_set (i := 3) sc_put.nd rfl (se_tup (sa_cons se_str (sa_cons (se_xf hz hf (all1 ⟨T.x_BadValue, T.a_BadValue_what⟩ all0) (pvv 4) rfl) sa_nil))))))
  HsS.nil)))
  (sb_cons (ss_if (st_cmp c_notN (se_var 3) se_non) (sb_one (ss_ret (se_var 3))) sb_nil)
  (sb_one (ss_ret (se_tup (sa_cons se_str (sa_cons (se_var 2) sa_nil))))))))
theorem p_run_right (T : Txt P K mg A) : FnU (gl A) P w K mg base 6 (A.f 8) (A.d 8) ["_law_pen_here"] v_run_right :=
  T.d_run_right.fnU sc_run_right rfl fun cdv Ar outer s H E hr hgd =>
  (sb_cons (ss_par3 rfl sc_run_right.nd rfl rfl rfl (by decide) (by decide) (by decide) (sa_cons (se_add se_int (se_call (p_draw T) (hr.mono (by decide)) hgd takesB rfl T.m__law_draw T.d_draw.kp (b_draw_2 T) defs0 (sa_cons (se_var 0) (sa_cons (se_fz se_int) sa_nil)))) (sa_cons (se_add se_int (se_call (p_draw T) (hr.mono (by decide)) hgd takesB rfl T.m__law_draw T.d_draw.kp (b_draw_2 T) defs0 (sa_cons (se_var 0) (sa_cons (se_fz se_int) sa_nil)))) (sa_cons se_int sa_nil))))
  (sb_cons (ss_set (i := 4) sc_run_right.nd rfl (se_call (p_order T) (hr.mono (by decide)) hgd takesB rfl T.m__law_order T.d_order.kp (b_order_4 T) defs0 (sa_cons (se_var 0) (sa_cons (se_var 1) (sa_cons (se_var 2) (sa_cons (se_var 3) sa_nil))))))
  (sb_cons (ss_par2 rfl sc_run_right.nd rfl rfl (by decide) (sa_cons (se_make T.mk_Store (p_Store_init T) (hr.mono (by decide)) hgd takesB rfl T.m_Store (b_Store_init_2 T) defs0 (sa_cons (se_var 2) sa_nil)) (sa_cons (se_lst sa_nil) sa_nil)))
  (sb_cons (ss_for passB rfl (si_seq (se_var 4)) (sg_one (i := 7) sc_run_right.nd rfl) (sb_cons (ss_set (i := 8) sc_run_right.nd rfl (se_call (p_put T) (hr.mono (by decide)) hgd takesB rfl T.m__law_put T.d_put.kp (b_put_2 T) defs0 (sa_cons (se_var 5) (sa_cons (se_var 7) sa_nil))))
    (sb_cons (ss_if (st_cmp (c_ne (hr.units)) (se_idx (se_var 8) se_int) se_str) (sb_one (ss_ret se_bl)) sb_nil)
    (sb_one (ss_if (st_cmp c_notN (se_idx (se_var 8) se_int) se_non) (sb_one (ss_expr (se_lm lm_append PySem.F.slot_list_append PySem.F.type_list_append (pvv 6) (sa_cons (se_idx (se_var 8) se_int) sa_nil)))) sb_nil)))))
  (sb_cons (ss_if (st_w (sw_or (st_cmp (c_ne (hr.units)) (se_var 6) (se_listR1 rfl T.n_list T.n_range (se_sub (se_var 3) (se_var 2)))) (sw_or1 (st_cmp (c_ne (hr.units)) (se_callTy cv_list T.n_list (sa_cons (se_fld (se_var 5) (all1 ⟨T.k_Store, T.a_Store_held⟩ all0)) sa_nil)) (se_sl (se_callB cv_sorted T.n_sorted (sa_cons (se_var 4) sa_nil)) (so_some (se_sub (se_var 3) (se_var 2))) so_none))))) (sb_one (ss_ret se_bl)) sb_nil)
  (sb_cons (ss_set (i := 9) sc_run_right.nd rfl (se_make T.mk_Store (p_Store_init T) (hr.mono (by decide)) hgd takesB rfl T.m_Store (b_Store_init_2 T) defs0 (sa_cons (se_fz (se_sub (se_var 2) se_int)) sa_nil)))
  (sb_cons (ss_for passB rfl (si_seq (se_listR2 rfl T.n_list T.n_range se_int (se_add (se_var 2) se_int))) (sg_one (i := 7) sc_run_right.nd rfl) (sb_one (ss_if (st_cmp (c_ne (hr.units)) (se_idx (se_call (p_put T) (hr.mono (by decide)) hgd takesB rfl T.m__law_put T.d_put.kp (b_put_2 T) defs0 (sa_cons (se_var 9) (sa_cons (se_var 7) sa_nil))) se_int) se_str) (sb_one (ss_ret se_bl)) sb_nil)))
  (sb_one (ss_ret (se_and (se_cmp (c_eq (hr.units)) (se_call (p_put T) (hr.mono (by decide)) hgd takesB rfl T.m__law_put T.d_put.kp (b_put_2 T) defs0 (sa_cons (se_var 9) (sa_cons (se_fz se_int) sa_nil))) (se_tup (sa_cons se_str (sa_cons (se_var 2) sa_nil)))) (se_one (se_cmp (c_eq (hr.units)) (se_call (p_put T) (hr.mono (by decide)) hgd takesB rfl T.m__law_put T.d_put.kp (b_put_2 T) defs0 (sa_cons (se_var 9) (sa_cons (se_fz (se_add (se_var 2) se_int)) sa_nil))) (se_tup (sa_cons se_str (sa_cons se_int sa_nil)))))))))))))))
theorem p_made_right (T : Txt P K mg A) : FnU (gl A) P w K mg base 6 (A.f 9) (A.d 9) ["_law_pen_here"] v_made_right :=
  T.d_made_right.fnU sc_made_right rfl fun cdv Ar outer s H E hr hgd =>
  (sb_cons (ss_par2 rfl sc_made_right.nd rfl rfl (by decide) (sa_cons se_non (sa_cons (se_call (p_pick T) (hr.mono (by decide)) hgd takesB rfl T.m__law_pick T.d_pick.kp (b_pick_2 T) defs0 (sa_cons (se_var 0) (sa_cons (se_fz (se_lst (sa_cons (se_neg se_int) (sa_cons se_int (sa_cons se_bl (sa_cons se_non (sa_cons se_str (sa_cons (se_tup (sa_cons se_int sa_nil)) sa_nil)))))))) sa_nil))) sa_nil)))
  (sb_cons (ss_try rfl rfl sc_made_right.nd takesB (fun W1 pn1 xe1 tk1 ps1 => (sb_one (ss_expr (se_make T.mk_Store (p_Store_init T) (hr.mono (by decide)) hgd tk1 rfl T.m_Store (b_Store_init_2 T) defs0 (sa_cons (se_var 2) sa_nil)))))
  (HsS.cons (c := ⟨lkB [(0, false), (1, true), (2, false)], (some 3), fun er => (sAsg 1 (eTup (aCons (eIsX [((.cl 1), (.cl 0), true)] 3 er (.cl 0)) (aCons (eXf [1] 3 "what" er) aNil))))⟩) ⟨rfl, by decide, .inl T.m_BadValue⟩ ⟨rfl, rfl⟩ (lkB_ok ⟨T.ce_PostError_BadValue, ⟨T.ce_BadValue_BadValue, ⟨T.ce_Unfit_BadValue, trivial⟩⟩⟩) (fun a oe dx pn kx kxs kds hk hz hf => (sb_one (ss_set (i := 1) sc_made_right.nd rfl (se_tup (sa_cons (se_isX hz hf (tx1 T.t_BadValue tx0) (tk1 T.i_BadValue_PostError tk0) (pvv 3) (pe_glob (v := .ref _) rfl T.m_PostError rfl) (.own _) T.n_isinstance) (sa_cons (se_xf hz hf (all1 ⟨T.x_BadValue, T.a_BadValue_what⟩ all0) (pvv 3) rfl) sa_nil))))))
  HsS.nil))
  (sb_one (ss_ret (se_cmp (c_eq (hr.units)) (se_var 1) (se_tup (sa_cons se_bl (sa_cons se_str sa_nil))))))))
theorem p_Store_len (T : Txt P K mg A) : FnU (gl A) P w K mg base 1 (A.f 10) (A.d 10) ["self"] v_Store_len :=
  T.d_Store_len.fnU sc_Store_len rfl fun cdv Ar outer s H E hr hgd =>
  (sb_one (ss_ret (se_callB cv_len T.n_len (sa_cons (se_fld (se_var 0) (all1 ⟨T.k_Store, T.a_Store_held⟩ all0)) sa_nil))))
theorem p_shown (T : Txt P K mg A) : FnU (gl A) P w K mg base 3 (A.f 11) (A.d 11) ["_law_store"] v_shown :=
  T.d_shown.fnU sc_shown rfl fun cdv Ar outer s H E hr hgd =>
  (sb_one (ss_ret (se_tup (sa_cons (se_fld (se_var 0) (all1 ⟨T.k_Store, T.a_Store_late⟩ all0)) (sa_cons (se_fld (se_var 0) (all1 ⟨T.k_Store, T.a_Store_held⟩ all0)) (sa_cons (se_fld (se_var 0) (all1 ⟨T.k_Store, T.a_Store_last⟩ all0)) (sa_cons (se_fld (se_var 0) (all1 ⟨T.k_Store, T.a_Store_places⟩ all0)) (sa_cons (se_lenO (se_var 0) T.k_Store T.len_Store T.lenf_Store (p_Store_len T) (hr.mono (by decide)) hgd takesB (b_Store_len_1 T) rfl T.n_len) sa_nil))))))))
theorem p_steps_right (T : Txt P K mg A) : FnU (gl A) P w K mg base 6 (A.f 12) (A.d 12) ["_law_pen_here", "_law_late", "_law_numbers"] v_steps_right :=
  T.d_steps_right.fnU sc_steps_right rfl fun cdv Ar outer s H E hr hgd =>
  (sb_cons (ss_parT rfl (sa_cons (se_makeK0 (ks := ["late"]) T.mk_Store (p_Store_init T) (hr.mono (by decide)) hgd takesB rfl T.m_Store (b_Store_init_1_late T) defs0 (sk_cons (se_var 1) sk_nil)) (sa_cons (se_lst sa_nil) (sa_cons se_non (sa_cons se_int sa_nil)))) (PGs.names_cons (i := 3) sc_steps_right.nd rfl (PGs.names_cons (i := 4) sc_steps_right.nd rfl (PGs.names_cons (i := 5) sc_steps_right.nd rfl (PGs.names_cons (i := 6) sc_steps_right.nd rfl PGs.names_nil)))))
  (sb_cons (ss_for passB rfl (si_seq (se_var 2)) (sg_one (i := 7) sc_steps_right.nd rfl) (sb_cons (ss_set (i := 8) sc_steps_right.nd rfl (se_call (p_put T) (hr.mono (by decide)) hgd takesB rfl T.m__law_put T.d_put.kp (b_put_2 T) defs0 (sa_cons (se_var 3) (sa_cons (se_var 7) sa_nil))))
    (sb_cons (ss_if (st_w (sw_and (st_cmp c_notN (se_var 5) se_non) (sw_and1 (st_cmp c_lt (se_var 7) (se_var 5))))) (sb_one (ss_if (st_cmp (c_ne (hr.units)) (se_callB (cv_repr hgd (hr.units)) T.n_repr (sa_cons (se_var 8) sa_nil)) (se_callB (cv_repr hgd (hr.units)) T.n_repr (sa_cons (se_tup (sa_cons se_str (sa_cons (se_var 6) sa_nil))) sa_nil))) (sb_one (ss_ret se_bl)) sb_nil)) (sb_cons (ss_par3 rfl sc_steps_right.nd rfl rfl rfl (by decide) (by decide) (by decide) (sa_cons (se_callB cv_sorted T.n_sorted (sa_cons (se_add (se_var 4) (se_lst (sa_cons (se_var 7) sa_nil))) sa_nil)) (sa_cons (se_add (se_var 6) se_int) (sa_cons se_non sa_nil))))
      (sb_cons (ss_if (st_cmp c_gt (se_callB cv_len T.n_len (sa_cons (se_var 4) sa_nil)) (se_var 1)) (sb_cons (ss_set (i := 9) sc_steps_right.nd rfl (se_idx (se_var 4) se_int))
        (sb_one (ss_par2 rfl sc_steps_right.nd rfl rfl (by decide) (sa_cons (se_sl (se_var 4) (so_some se_int) so_none) (sa_cons (se_var 9) sa_nil))))) sb_nil)
      (sb_one (ss_if (st_cmp (c_ne (hr.units)) (se_callB (cv_repr hgd (hr.units)) T.n_repr (sa_cons (se_var 8) sa_nil)) (se_callB (cv_repr hgd (hr.units)) T.n_repr (sa_cons (se_tup (sa_cons se_str (sa_cons (se_var 9) sa_nil))) sa_nil))) (sb_one (ss_ret se_bl)) sb_nil)))))
    (sb_one (ss_if (st_cmp (c_ne (hr.units)) (se_callB (cv_repr hgd (hr.units)) T.n_repr (sa_cons (se_call (p_shown T) (hr.mono (by decide)) hgd takesB rfl T.m__law_shown T.d_shown.kp (b_shown_1 T) defs0 (sa_cons (se_var 3) sa_nil)) sa_nil)) (se_callB (cv_repr hgd (hr.units)) T.n_repr (sa_cons (se_tup (sa_cons (se_var 1) (sa_cons (se_callTy cv_tuple T.n_tuple (sa_cons (se_var 4) sa_nil)) (sa_cons (se_var 5) (sa_cons (se_var 6) (sa_cons (se_callB cv_len T.n_len (sa_cons (se_var 4) sa_nil)) sa_nil)))))) sa_nil))) (sb_one (ss_ret se_bl)) sb_nil)))))
  (sb_cons (ss_set (i := 10) sc_steps_right.nd rfl (se_call (p_pick T) (hr.mono (by decide)) hgd takesB rfl T.m__law_pick T.d_pick.kp (b_pick_2 T) defs0 (sa_cons (se_var 0) (sa_cons (se_fz (se_lst (sa_cons se_non (sa_cons se_bl (sa_cons (se_neg se_int) (sa_cons (se_pow se_int se_int) (sa_cons se_str (sa_cons (se_tup (sa_cons se_int sa_nil)) (sa_cons (se_lst (sa_cons se_int sa_nil)) sa_nil))))))))) sa_nil))))
  (sb_cons (ss_set (i := 8) sc_steps_right.nd rfl (se_call (p_shown T) (hr.mono (by decide)) hgd takesB rfl T.m__law_shown T.d_shown.kp (b_shown_1 T) defs0 (sa_cons (se_var 3) sa_nil)))
  (sb_one (ss_ret (se_and (se_cmp (c_eq (hr.units)) (se_call (p_put T) (hr.mono (by decide)) hgd takesB rfl T.m__law_put T.d_put.kp (b_put_2 T) defs0 (sa_cons (se_var 3) (sa_cons (se_var 10) sa_nil))) (se_tup (sa_cons se_str (sa_cons se_str sa_nil)))) (se_one (se_cmp (c_eq (hr.units)) (se_callB (cv_repr hgd (hr.units)) T.n_repr (sa_cons (se_call (p_shown T) (hr.mono (by decide)) hgd takesB rfl T.m__law_shown T.d_shown.kp (b_shown_1 T) defs0 (sa_cons (se_var 3) sa_nil)) sa_nil)) (se_callB (cv_repr hgd (hr.units)) T.n_repr (sa_cons (se_var 8) sa_nil)))))))))))
theorem p_law (T : Txt P K mg A) : FnU (gl A) P w K mg base 7 (A.f 13) (A.d 13) ["_law_script"] v_law :=
  T.d_law.fnU sc_law rfl fun cdv Ar outer s H E hr hgd =>
  (sb_cons (ss_set (i := 1) sc_law.nd rfl (se_call (p_pen T) (hr.mono (by decide)) hgd takesB rfl T.m__law_pen T.d_pen.kp (b_pen_1 T) defs0 (sa_cons (se_var 0) sa_nil)))
  (sb_cons (ss_par3 rfl sc_law.nd rfl rfl rfl (by decide) (by decide) (by decide) (sa_cons (se_call (p_draw T) (hr.mono (by decide)) hgd takesB rfl T.m__law_draw T.d_draw.kp (b_draw_2 T) defs0 (sa_cons (se_var 1) (sa_cons (se_fz se_int) sa_nil))) (sa_cons (se_call (p_draw T) (hr.mono (by decide)) hgd takesB rfl T.m__law_draw T.d_draw.kp (b_draw_2 T) defs0 (sa_cons (se_var 1) (sa_cons (se_fz se_int) sa_nil))) (sa_cons (se_call (p_draw T) (hr.mono (by decide)) hgd takesB rfl T.m__law_draw T.d_draw.kp (b_draw_2 T) defs0 (sa_cons (se_var 1) (sa_cons (se_fz se_int) sa_nil))) sa_nil))))
  (sb_cons (ss_if (st_cmp (c_eq (hr.units)) (se_var 2) se_int) (sb_one (ss_ret (se_and (se_call (p_run_right T) (hr.mono (by decide)) hgd takesB rfl T.m__law_run_right T.d_run_right.kp (b_run_right_1 T) defs0 (sa_cons (se_var 1) sa_nil)) (se_one (se_call (p_made_right T) (hr.mono (by decide)) hgd takesB rfl T.m__law_made_right T.d_made_right.kp (b_made_right_1 T) defs0 (sa_cons (se_var 1) sa_nil)))))) sb_nil)
  (sb_cons (ss_set (i := 5) sc_law.nd rfl (se_idx (se_lst (sa_cons se_int (sa_cons se_int (sa_cons (se_pow se_int se_int) sa_nil)))) (se_var 2)))
  (sb_cons (ss_setComp (i := 6) (own := [("_law_at", 7)]) rfl sc_law.nd rfl (si_rng1 T.n_range (sa_cons (se_var 4) sa_nil)) (by show BlkOk n_law (defScope s_law) _ _; exact ⟨rfl, by decide +kernel, by decide +kernel, by decide +kernel, by decide +kernel⟩) (tg_one 7) (by decide) (fun _ _ _ _ _ => pgn (i := 7) sc_law.nd) (fun _ _ _ _ _ => pts0) (fun _ _ _ _ _ => (se_add (se_call (p_draw T) (hr.mono (by decide)) hgd U.takes0 rfl T.m__law_draw T.d_draw.kp (b_draw_2 T) defs0 (sa_cons (se_var 1) (sa_cons (se_var 5) sa_nil))) (se_var 7))))
  (sb_cons (ss_if (st_cmp (c_eq (hr.units)) (se_var 2) se_int) (sb_one (ss_setComp (i := 6) (own := [("_law_at", 7), ("_law_one", 8)]) rfl sc_law.nd rfl (si_enum T.n_enumerate (sa_cons (se_var 6) sa_nil)) (by show BlkOk n_law (defScope s_law) _ _; exact ⟨rfl, by decide +kernel, by decide +kernel, by decide +kernel, by decide +kernel⟩) (tg_many rfl) (by decide) (fun _ _ _ _ _ => pg_tup rfl (PGs.names_cons (i := 7) sc_law.nd rfl (PGs.names_cons (i := 8) sc_law.nd rfl PGs.names_nil))) (fun _ _ _ _ _ => pts0) (fun _ _ _ _ _ => (se_add (se_mul (se_callTy cv_int T.n_int (sa_cons (se_var 8) sa_nil)) (se_pow se_int se_int)) (se_var 7))))) sb_nil)
  (sb_one (ss_ret (se_call (p_steps_right T) (hr.mono (by decide)) hgd takesB rfl T.m__law_steps_right T.d_steps_right.kp (b_steps_right_3 T) defs0 (sa_cons (se_var 1) (sa_cons (se_fz (se_call (p_pick T) (hr.mono (by decide)) hgd takesB rfl T.m__law_pick T.d_pick.kp (b_pick_2 T) defs0 (sa_cons (se_var 1) (sa_cons (se_fz (se_lst (sa_cons (se_var 3) (sa_cons (se_mod (se_callTy cv_int T.n_int (sa_cons (se_var 3) sa_nil)) se_int) sa_nil)))) sa_nil)))) (sa_cons (se_var 6) sa_nil))))))))))))
end
theorem all_mk {l : PySem.W.OpenLaw} {w : World} {K : PySem.W.Frag} {h : Heap} {mg : Str → Option Value} {fa f0 f1 f2 f3 f4 f5 f6 f7 f8 f9 f10 f11 f12 f13 f14 f15 f16 c0 c1 c2 c3 : Addr} (X : K.In h) (G : h.Ns mainGlobals mg) (hfa : mg "law" = some (.ref fa))
    {oc0 kV0 dc0 pm0 cd0 ct0 : Value} {od0 an0 : Option Addr} {sl0 : Array (Option Value)}
    {oc1 kV1 dc1 pm1 cd1 ct1 : Value} {od1 an1 : Option Addr} {sl1 : Array (Option Value)}
    {oc2 kV2 dc2 pm2 cd2 ct2 : Value} {od2 an2 : Option Addr} {sl2 : Array (Option Value)}
    {oc3 kV3 dc3 pm3 cd3 ct3 : Value} {od3 an3 : Option Addr} {sl3 : Array (Option Value)}
    {oc4 kV4 dc4 pm4 cd4 ct4 : Value} {od4 an4 : Option Addr} {sl4 : Array (Option Value)}
    {T4 : Addr} {oT4 : Value} {dT4 : Option Addr} {sT4 : Array (Option Value)} {jT4 : Nat} {u4_0 : Value}
    {oc5 kV5 dc5 pm5 cd5 ct5 : Value} {od5 an5 : Option Addr} {sl5 : Array (Option Value)}
    {oc6 kV6 dc6 pm6 cd6 ct6 : Value} {od6 an6 : Option Addr} {sl6 : Array (Option Value)}
    {oc7 kV7 dc7 pm7 cd7 ct7 : Value} {od7 an7 : Option Addr} {sl7 : Array (Option Value)}
    {oc8 kV8 dc8 pm8 cd8 ct8 : Value} {od8 an8 : Option Addr} {sl8 : Array (Option Value)}
    {oc9 kV9 dc9 pm9 cd9 ct9 : Value} {od9 an9 : Option Addr} {sl9 : Array (Option Value)}
    {oc10 kV10 dc10 pm10 cd10 ct10 : Value} {od10 an10 : Option Addr} {sl10 : Array (Option Value)}
    {oc11 kV11 dc11 pm11 cd11 ct11 : Value} {od11 an11 : Option Addr} {sl11 : Array (Option Value)}
    {oc12 kV12 dc12 pm12 cd12 ct12 : Value} {od12 an12 : Option Addr} {sl12 : Array (Option Value)}
    {oc13 kV13 dc13 pm13 cd13 ct13 : Value} {od13 an13 : Option Addr} {sl13 : Array (Option Value)}
    {uc_MOST_LATE : Value}
    {oc14 kV14 dc14 pm14 ct14 cl14 cw14 : Value} {od14 an14 cx14 cy14 : Option Addr} {sl14 sm14 sn14 : Array (Option Value)} {vs14 : Array Value} {fl14 : Str} {tf14 : Tok} {cc14 cd14 : Addr} {cdD14 : ClassData}
    {oc15 kV15 dc15 pm15 ct15 cl15 cw15 : Value} {od15 an15 cx15 cy15 : Option Addr} {sl15 sm15 sn15 : Array (Option Value)} {vs15 : Array Value} {fl15 : Str} {tf15 : Tok} {cc15 cd15 : Addr} {cdD15 : ClassData}
    {oc16 kV16 dc16 pm16 ct16 cl16 cw16 : Value} {od16 an16 cx16 cy16 : Option Addr} {sl16 sm16 sn16 : Array (Option Value)} {vs16 : Array Value} {fl16 : Str} {tf16 : Tok} {cc16 cd16 : Addr} {cdD16 : ClassData}
    {ob_BadValue : Obj}
    {ob_Unfit : Obj}
    (hm_PostError : PySem.W.nsIn K mainGlobals "PostError" = some (some (.ref c0)))
    (hm_BadValue : PySem.W.nsIn K mainGlobals "BadValue" = some (some (.ref c1)))
    (hm_Unfit : PySem.W.nsIn K mainGlobals "Unfit" = some (some (.ref c2)))
    (hm_Store : PySem.W.nsIn K mainGlobals "Store" = some (some (.ref c3)))
    (hf_pen : PySem.W.nsIn K mainGlobals "_law_pen" = some (some (.ref f0)))
    (hf_draw : PySem.W.nsIn K mainGlobals "_law_draw" = some (some (.ref f1)))
    (hf_pick : PySem.W.nsIn K mainGlobals "_law_pick" = some (some (.ref f2)))
    (hf_order : PySem.W.nsIn K mainGlobals "_law_order" = some (some (.ref f3)))
    (hf_is_number : PySem.W.nsIn K mainGlobals "is_number" = some (some (.ref f4)))
    (hf_Store_init : PySem.W.findIn K (.ref c3) "__init__" = some (some (.ref f5)))
    (hi_Store_init : PySem.W.isFn K (.ref f5) = true)
    (hf_Store_put : PySem.W.findIn K (.ref c3) "put" = some (some (.ref f6)))
    (hi_Store_put : PySem.W.isFn K (.ref f6) = true)
    (hf_put : PySem.W.nsIn K mainGlobals "_law_put" = some (some (.ref f7)))
    (hf_run_right : PySem.W.nsIn K mainGlobals "_law_run_right" = some (some (.ref f8)))
    (hf_made_right : PySem.W.nsIn K mainGlobals "_law_made_right" = some (some (.ref f9)))
    (hf_Store_len : PySem.W.findIn K (.ref c3) "__len__" = some (some (.ref f10)))
    (hi_Store_len : PySem.W.isFn K (.ref f10) = true)
    (hf_shown : PySem.W.nsIn K mainGlobals "_law_shown" = some (some (.ref f11)))
    (hf_steps_right : PySem.W.nsIn K mainGlobals "_law_steps_right" = some (some (.ref f12)))
    (hf_law : PySem.W.nsIn K mainGlobals "law" = some (some (.ref f13)))
    (hl_pen : K.lookup f0 = some ⟨oc0, od0, .func (PySem.W.fnOf "_law_pen" "_law_pen" (defArgs s_pen) (defBody s_pen) (defScope s_pen) .none kV0 dc0 pm0 an0 cd0 ct0), sl0⟩)
    (hc_pen : PySem.W.codeIn K cd0 "_law_pen" = true)
    (hk_pen : PySem.W.keepIn K (.ref f0) = true)
    (hl_draw : K.lookup f1 = some ⟨oc1, od1, .func (PySem.W.fnOf "_law_draw" "_law_draw" (defArgs s_draw) (defBody s_draw) (defScope s_draw) .none kV1 dc1 pm1 an1 cd1 ct1), sl1⟩)
    (hc_draw : PySem.W.codeIn K cd1 "_law_draw" = true)
    (hk_draw : PySem.W.keepIn K (.ref f1) = true)
    (hl_pick : K.lookup f2 = some ⟨oc2, od2, .func (PySem.W.fnOf "_law_pick" "_law_pick" (defArgs s_pick) (defBody s_pick) (defScope s_pick) .none kV2 dc2 pm2 an2 cd2 ct2), sl2⟩)
    (hc_pick : PySem.W.codeIn K cd2 "_law_pick" = true)
    (hk_pick : PySem.W.keepIn K (.ref f2) = true)
    (hl_order : K.lookup f3 = some ⟨oc3, od3, .func (PySem.W.fnOf "_law_order" "_law_order" (defArgs s_order) (defBody s_order) (defScope s_order) .none kV3 dc3 pm3 an3 cd3 ct3), sl3⟩)
    (hc_order : PySem.W.codeIn K cd3 "_law_order" = true)
    (hk_order : PySem.W.keepIn K (.ref f3) = true)
    (hl_is_number : K.lookup f4 = some ⟨oc4, od4, .func (PySem.W.fnOf "is_number" "is_number" (defArgs s_is_number) (defBody s_is_number) (defScope s_is_number) (.ref T4) kV4 dc4 pm4 an4 cd4 ct4), sl4⟩)
    (hc_is_number : PySem.W.codeIn K cd4 "is_number" = true)
    (hk_is_number : PySem.W.keepIn K (.ref f4) = true)
    (hT_is_number : K.lookup T4 = some ⟨oT4, dT4, .seq ([u4_0].toArray) jT4, sT4⟩)
    (hu_is_number : Vals [(V.int 1000000000000000000000000000000000000000000000000000000000000)] [u4_0])
    (hl_Store_init : K.lookup f5 = some ⟨oc5, od5, .func (PySem.W.fnOf "__init__" "Store.__init__" (defArgs s_Store_init) (defBody s_Store_init) (defScope s_Store_init) .none kV5 dc5 pm5 an5 cd5 ct5), sl5⟩)
    (hc_Store_init : PySem.W.codeIn K cd5 "Store.__init__" = true)
    (hk_Store_init : PySem.W.keepIn K (.ref f5) = true)
    (hl_Store_put : K.lookup f6 = some ⟨oc6, od6, .func (PySem.W.fnOf "put" "Store.put" (defArgs s_Store_put) (defBody s_Store_put) (defScope s_Store_put) .none kV6 dc6 pm6 an6 cd6 ct6), sl6⟩)
    (hc_Store_put : PySem.W.codeIn K cd6 "Store.put" = true)
    (hk_Store_put : PySem.W.keepIn K (.ref f6) = true)
    (hl_put : K.lookup f7 = some ⟨oc7, od7, .func (PySem.W.fnOf "_law_put" "_law_put" (defArgs s_put) (defBody s_put) (defScope s_put) .none kV7 dc7 pm7 an7 cd7 ct7), sl7⟩)
    (hc_put : PySem.W.codeIn K cd7 "_law_put" = true)
    (hk_put : PySem.W.keepIn K (.ref f7) = true)
    (hl_run_right : K.lookup f8 = some ⟨oc8, od8, .func (PySem.W.fnOf "_law_run_right" "_law_run_right" (defArgs s_run_right) (defBody s_run_right) (defScope s_run_right) .none kV8 dc8 pm8 an8 cd8 ct8), sl8⟩)
    (hc_run_right : PySem.W.codeIn K cd8 "_law_run_right" = true)
    (hk_run_right : PySem.W.keepIn K (.ref f8) = true)
    (hl_made_right : K.lookup f9 = some ⟨oc9, od9, .func (PySem.W.fnOf "_law_made_right" "_law_made_right" (defArgs s_made_right) (defBody s_made_right) (defScope s_made_right) .none kV9 dc9 pm9 an9 cd9 ct9), sl9⟩)
    (hc_made_right : PySem.W.codeIn K cd9 "_law_made_right" = true)
    (hk_made_right : PySem.W.keepIn K (.ref f9) = true)
    (hl_Store_len : K.lookup f10 = some ⟨oc10, od10, .func (PySem.W.fnOf "__len__" "Store.__len__" (defArgs s_Store_len) (defBody s_Store_len) (defScope s_Store_len) .none kV10 dc10 pm10 an10 cd10 ct10), sl10⟩)
    (hc_Store_len : PySem.W.codeIn K cd10 "Store.__len__" = true)
    (hk_Store_len : PySem.W.keepIn K (.ref f10) = true)
    (hl_shown : K.lookup f11 = some ⟨oc11, od11, .func (PySem.W.fnOf "_law_shown" "_law_shown" (defArgs s_shown) (defBody s_shown) (defScope s_shown) .none kV11 dc11 pm11 an11 cd11 ct11), sl11⟩)
    (hc_shown : PySem.W.codeIn K cd11 "_law_shown" = true)
    (hk_shown : PySem.W.keepIn K (.ref f11) = true)
    (hl_steps_right : K.lookup f12 = some ⟨oc12, od12, .func (PySem.W.fnOf "_law_steps_right" "_law_steps_right" (defArgs s_steps_right) (defBody s_steps_right) (defScope s_steps_right) .none kV12 dc12 pm12 an12 cd12 ct12), sl12⟩)
    (hc_steps_right : PySem.W.codeIn K cd12 "_law_steps_right" = true)
    (hk_steps_right : PySem.W.keepIn K (.ref f12) = true)
    (hl_law : K.lookup f13 = some ⟨oc13, od13, .func (PySem.W.fnOf "law" "law" (defArgs s_law) (defBody s_law) (defScope s_law) .none kV13 dc13 pm13 an13 cd13 ct13), sl13⟩)
    (hc_law : PySem.W.codeIn K cd13 "law" = true)
    (hk_law : PySem.W.keepIn K (.ref f13) = true)
    (pg_Store : PySem.W.plainGet K c3 Str.empty = true)
    (hd_Store : PySem.W.hasDictIn K c3 = true)
    (po_Store : PySem.W.plainOver K c3 = true)
    (sa_Store : PySem.W.findIn K (.ref c3) "__setattr__" = some (some (.builtin "object.__setattr__")))
    (ms_Store : PySem.W.makesIn K c3 = true)
    (kp_Store : PySem.W.keepIn K (.ref c3) = true)
    (na_Store_late : PySem.W.findIn K (.ref c3) "late" = some none)
    (na_Store_held : PySem.W.findIn K (.ref c3) "held" = some none)
    (na_Store_last : PySem.W.findIn K (.ref c3) "last" = some none)
    (na_Store_places : PySem.W.findIn K (.ref c3) "places" = some none)
    (na_BadValue_what : PySem.W.findIn K (.ref c1) "what" = some none)
    (na_Unfit_place : PySem.W.findIn K (.ref c2) "place" = some none)
    (hn_list : PySem.W.nsIn K mainGlobals "list" = some none)
    (hn_int : PySem.W.nsIn K mainGlobals "int" = some none)
    (hn_len : PySem.W.nsIn K mainGlobals "len" = some none)
    (hn_abs : PySem.W.nsIn K mainGlobals "abs" = some none)
    (hn_range : PySem.W.nsIn K mainGlobals "range" = some none)
    (hn_isinstance : PySem.W.nsIn K mainGlobals "isinstance" = some none)
    (hn_bool : PySem.W.nsIn K mainGlobals "bool" = some none)
    (hn_sorted : PySem.W.nsIn K mainGlobals "sorted" = some none)
    (hn_tuple : PySem.W.nsIn K mainGlobals "tuple" = some none)
    (hn_enumerate : PySem.W.nsIn K mainGlobals "enumerate" = some none)
    (hn_repr : PySem.W.nsIn K mainGlobals "repr" = some none)
    (hg_MOST_LATE : PySem.W.nsIn K mainGlobals "MOST_LATE" = some (some uc_MOST_LATE))
    (hr_MOST_LATE : RelV (V.int 20) uc_MOST_LATE)
    (h_super : PySem.W.nsIn K mainGlobals "super" = some none)
    (h_any : PySem.W.nsIn K cStatics "thirdparty.any" = some none)
    (hf_BadValue_init : PySem.W.findIn K (.ref c1) "__init__" = some (some (.ref f14)))
    (hl_BadValue_init : K.lookup f14 = some ⟨oc14, od14, .func (PySem.W.ksFn "__init__" "BadValue.__init__" (defArgs s_BadValue_init) (defBody s_BadValue_init) (defScope s_BadValue_init) .none kV14 dc14 pm14 an14 (.ref cd14) ct14 cc14), sl14⟩)
    (hc_BadValue_init : PySem.W.codeIn K (.ref cd14) "BadValue.__init__" = true)
    (hd_BadValue_init : K.lookup cd14 = some ⟨cl14, cx14, .fields vs14, sm14⟩)
    (hv_BadValue_init : vs14[2]? = some (.str fl14 tf14))
    (hw_BadValue_init : ((l.prog.main.file : Str) == fl14) = true)
    (he_BadValue_init : K.lookup cc14 = some ⟨cw14, cy14, .cell (some (.ref c1)), sn14⟩)
    (hx_BadValue_init : PySem.W.clsIn K c1 = some cdD14)
    (hf_Unfit_init : PySem.W.findIn K (.ref c2) "__init__" = some (some (.ref f15)))
    (hl_Unfit_init : K.lookup f15 = some ⟨oc15, od15, .func (PySem.W.ksFn "__init__" "Unfit.__init__" (defArgs s_Unfit_init) (defBody s_Unfit_init) (defScope s_Unfit_init) .none kV15 dc15 pm15 an15 (.ref cd15) ct15 cc15), sl15⟩)
    (hc_Unfit_init : PySem.W.codeIn K (.ref cd15) "Unfit.__init__" = true)
    (hd_Unfit_init : K.lookup cd15 = some ⟨cl15, cx15, .fields vs15, sm15⟩)
    (hv_Unfit_init : vs15[2]? = some (.str fl15 tf15))
    (hw_Unfit_init : ((l.prog.main.file : Str) == fl15) = true)
    (he_Unfit_init : K.lookup cc15 = some ⟨cw15, cy15, .cell (some (.ref c2)), sn15⟩)
    (hx_Unfit_init : PySem.W.clsIn K c2 = some cdD15)
    (hf_PostError_init : PySem.W.findIn K (.ref c0) "__init__" = some (some (.ref f16)))
    (hl_PostError_init : K.lookup f16 = some ⟨oc16, od16, .func (PySem.W.ksFn "__init__" "PostError.__init__" (defArgs s_PostError_init) (defBody s_PostError_init) (defScope s_PostError_init) .none kV16 dc16 pm16 an16 (.ref cd16) ct16 cc16), sl16⟩)
    (hc_PostError_init : PySem.W.codeIn K (.ref cd16) "PostError.__init__" = true)
    (hd_PostError_init : K.lookup cd16 = some ⟨cl16, cx16, .fields vs16, sm16⟩)
    (hv_PostError_init : vs16[2]? = some (.str fl16 tf16))
    (hw_PostError_init : ((l.prog.main.file : Str) == fl16) = true)
    (he_PostError_init : K.lookup cc16 = some ⟨cw16, cy16, .cell (some (.ref c0)), sn16⟩)
    (hx_PostError_init : PySem.W.clsIn K c0 = some cdD16)
    (h_top : (l.prog.main.scope.names.lookup ("super" : Str)).isSome = false)
    (hO_BadValue : K.lookup c1 = some ob_BadValue)
    (ho_BadValue : OexO c1 ob_BadValue)
    (hs_BadValue : PySem.W.findIn K (.ref c1) "__setattr__" = some (some (.builtin "object.__setattr__")))
    (hb_BadValue : PySem.W.subIn K (.ref c1) (.type "BaseException") = some true)
    (ht_BadValue : PySem.W.typeIn K (.ref c1) = some (.type "type"))
    (hq_BadValue : PySem.W.keepIn K (.ref c1) = true)
    (hy_BadValue : PySem.W.typeIn K (.ref f14) = some (.type "function"))
    (hmp_BadValue : PySem.W.mroIn K c1 (.ref c0) = some true)
    (hsi_BadValue : PySem.W.ks_superIn K c1 c0 "__init__" = some (some (.builtin "ValueError.__init__")))
    (hve_BadValue : PySem.W.subIn K (.ref c1) (.type "ValueError") = some true)
    (hvt_BadValue : PySem.W.findIn K (.ref c1) "values_told" = some none)
    (hms_BadValue : PySem.W.mroIn K c1 (.ref c1) = some true)
    (hss_BadValue : PySem.W.ks_superIn K c1 c1 "__init__" = some (some (.ref f16)))
    (hO_Unfit : K.lookup c2 = some ob_Unfit)
    (ho_Unfit : OexO c2 ob_Unfit)
    (hs_Unfit : PySem.W.findIn K (.ref c2) "__setattr__" = some (some (.builtin "object.__setattr__")))
    (hb_Unfit : PySem.W.subIn K (.ref c2) (.type "BaseException") = some true)
    (ht_Unfit : PySem.W.typeIn K (.ref c2) = some (.type "type"))
    (hq_Unfit : PySem.W.keepIn K (.ref c2) = true)
    (hy_Unfit : PySem.W.typeIn K (.ref f15) = some (.type "function"))
    (hmp_Unfit : PySem.W.mroIn K c2 (.ref c0) = some true)
    (hsi_Unfit : PySem.W.ks_superIn K c2 c0 "__init__" = some (some (.builtin "ValueError.__init__")))
    (hve_Unfit : PySem.W.subIn K (.ref c2) (.type "ValueError") = some true)
    (hvt_Unfit : PySem.W.findIn K (.ref c2) "values_told" = some none)
    (hms_Unfit : PySem.W.mroIn K c2 (.ref c2) = some true)
    (hss_Unfit : PySem.W.ks_superIn K c2 c2 "__init__" = some (some (.ref f16)))
    (hyp_post : PySem.W.typeIn K (.ref f16) = some (.type "function"))
    (hfn_post : PySem.W.fnIn K f16 = true)
    (xa_BadValue : PySem.W.findIn K (.ref c1) "__getattribute__" = some (some (.builtin "BaseException.__getattribute__")))
    (xb_BadValue : PySem.W.findIn K (.ref c1) "__getattr__" = some none)
    (xe_BadValue : PySem.W.subIn K (.ref c1) (.type "BaseException") = some true)
    (xd_BadValue : PySem.W.hasDictIn K c1 = true)
    (xa_Unfit : PySem.W.findIn K (.ref c2) "__getattribute__" = some (some (.builtin "BaseException.__getattribute__")))
    (xb_Unfit : PySem.W.findIn K (.ref c2) "__getattr__" = some none)
    (xe_Unfit : PySem.W.subIn K (.ref c2) (.type "BaseException") = some true)
    (xd_Unfit : PySem.W.hasDictIn K c2 = true)
    (ts_get : PySem.W.specialIn K (.builtin "object.__class__") "__get__" = some (some (.builtin "getset_descriptor.__get__")))
    (ts_tak : PySem.W.takesIn K (.builtin "object.__class__") = some true)
    (tc_BadValue : PySem.W.findIn K (.ref c1) "__class__" = some (some (.builtin "object.__class__")))
    (tm_BadValue : PySem.W.mroIn K c1 (.type "object") = some true)
    (ik_BadValue_PostError : PySem.W.kitOne K (.ref c1) (.ref c0) = some true)
    (ck_PostError_BadValue : PySem.W.exmOne K (.ref c0) (.ref c1) = some false)
    (ck_BadValue_BadValue : PySem.W.exmOne K (.ref c1) (.ref c1) = some true)
    (ck_Unfit_BadValue : PySem.W.exmOne K (.ref c2) (.ref c1) = some false)
    (ck_PostError_Unfit : PySem.W.exmOne K (.ref c0) (.ref c2) = some false)
    (ck_BadValue_Unfit : PySem.W.exmOne K (.ref c1) (.ref c2) = some false)
    (ck_Unfit_Unfit : PySem.W.exmOne K (.ref c2) (.ref c2) = some true)
    : ∃ (G : Glob) (fd : FuncData), (∀ (s : Shared) (u : Value), BindsTo s fd ⟨[u], []⟩ [("_law_script", u)]) ∧ ∀ base : Heap, K.In base → base.Ns mainGlobals mg → FnU G l.prog w K mg base 7 fa fd ["_law_script"] v_law := by
  have e := hfa.symm.trans (PySem.W.mg_of X G hf_law)
  cases e
  have T : Txt l.prog K mg ⟨fun i => [f0, f1, f2, f3, f4, f5, f6, f7, f8, f9, f10, f11, f12, fa, f14, f15, f16].getD i 0, fun i => [c0, c1, c2, c3].getD i 0, fun i => [(PySem.W.fnOf "_law_pen" "_law_pen" (defArgs s_pen) (defBody s_pen) (defScope s_pen) .none kV0 dc0 pm0 an0 cd0 ct0), (PySem.W.fnOf "_law_draw" "_law_draw" (defArgs s_draw) (defBody s_draw) (defScope s_draw) .none kV1 dc1 pm1 an1 cd1 ct1), (PySem.W.fnOf "_law_pick" "_law_pick" (defArgs s_pick) (defBody s_pick) (defScope s_pick) .none kV2 dc2 pm2 an2 cd2 ct2), (PySem.W.fnOf "_law_order" "_law_order" (defArgs s_order) (defBody s_order) (defScope s_order) .none kV3 dc3 pm3 an3 cd3 ct3), (PySem.W.fnOf "is_number" "is_number" (defArgs s_is_number) (defBody s_is_number) (defScope s_is_number) (.ref T4) kV4 dc4 pm4 an4 cd4 ct4), (PySem.W.fnOf "__init__" "Store.__init__" (defArgs s_Store_init) (defBody s_Store_init) (defScope s_Store_init) .none kV5 dc5 pm5 an5 cd5 ct5), (PySem.W.fnOf "put" "Store.put" (defArgs s_Store_put) (defBody s_Store_put) (defScope s_Store_put) .none kV6 dc6 pm6 an6 cd6 ct6), (PySem.W.fnOf "_law_put" "_law_put" (defArgs s_put) (defBody s_put) (defScope s_put) .none kV7 dc7 pm7 an7 cd7 ct7), (PySem.W.fnOf "_law_run_right" "_law_run_right" (defArgs s_run_right) (defBody s_run_right) (defScope s_run_right) .none kV8 dc8 pm8 an8 cd8 ct8), (PySem.W.fnOf "_law_made_right" "_law_made_right" (defArgs s_made_right) (defBody s_made_right) (defScope s_made_right) .none kV9 dc9 pm9 an9 cd9 ct9), (PySem.W.fnOf "__len__" "Store.__len__" (defArgs s_Store_len) (defBody s_Store_len) (defScope s_Store_len) .none kV10 dc10 pm10 an10 cd10 ct10), (PySem.W.fnOf "_law_shown" "_law_shown" (defArgs s_shown) (defBody s_shown) (defScope s_shown) .none kV11 dc11 pm11 an11 cd11 ct11), (PySem.W.fnOf "_law_steps_right" "_law_steps_right" (defArgs s_steps_right) (defBody s_steps_right) (defScope s_steps_right) .none kV12 dc12 pm12 an12 cd12 ct12), (PySem.W.fnOf "law" "law" (defArgs s_law) (defBody s_law) (defScope s_law) .none kV13 dc13 pm13 an13 cd13 ct13), (PySem.W.ksFn "__init__" "BadValue.__init__" (defArgs s_BadValue_init) (defBody s_BadValue_init) (defScope s_BadValue_init) .none kV14 dc14 pm14 an14 (.ref cd14) ct14 cc14), (PySem.W.ksFn "__init__" "Unfit.__init__" (defArgs s_Unfit_init) (defBody s_Unfit_init) (defScope s_Unfit_init) .none kV15 dc15 pm15 an15 (.ref cd15) ct15 cc15), (PySem.W.ksFn "__init__" "PostError.__init__" (defArgs s_PostError_init) (defBody s_PostError_init) (defScope s_PostError_init) .none kV16 dc16 pm16 an16 (.ref cd16) ct16 cc16)].getD i (PySem.W.fnOf "law" "law" (defArgs s_law) (defBody s_law) (defScope s_law) .none kV13 dc13 pm13 an13 cd13 ct13), fun i => [cc16, cc14, cc15, 0].getD i 0, fun i => [cd16, cd14, cd15, 0].getD i 0⟩ :=
    { m_PostError := PySem.W.mg_of X G hm_PostError,
      m_BadValue := PySem.W.mg_of X G hm_BadValue,
      m_Unfit := PySem.W.mg_of X G hm_Unfit,
      m_Store := PySem.W.mg_of X G hm_Store,
      m__law_pen := PySem.W.mg_of X G hf_pen,
      m__law_draw := PySem.W.mg_of X G hf_draw,
      m__law_pick := PySem.W.mg_of X G hf_pick,
      m__law_order := PySem.W.mg_of X G hf_order,
      m_is_number := PySem.W.mg_of X G hf_is_number,
      m__law_put := PySem.W.mg_of X G hf_put,
      m__law_run_right := PySem.W.mg_of X G hf_run_right,
      m__law_made_right := PySem.W.mg_of X G hf_made_right,
      m__law_shown := PySem.W.mg_of X G hf_shown,
      m__law_steps_right := PySem.W.mg_of X G hf_steps_right,
      d_pen := .mk0 hl_pen hc_pen hk_pen,
      d_draw := .mk0 hl_draw hc_draw hk_draw,
      d_pick := .mk0 hl_pick hc_pick hk_pick,
      d_order := .mk0 hl_order hc_order hk_order,
      d_is_number := .mkD hl_is_number hc_is_number hk_is_number hT_is_number rfl hu_is_number (by decide),
      d_Store_init := .mk0 hl_Store_init hc_Store_init hk_Store_init,
      d_Store_put := .mk0 hl_Store_put hc_Store_put hk_Store_put,
      d_put := .mk0 hl_put hc_put hk_put,
      d_run_right := .mk0 hl_run_right hc_run_right hk_run_right,
      d_made_right := .mk0 hl_made_right hc_made_right hk_made_right,
      d_Store_len := .mk0 hl_Store_len hc_Store_len hk_Store_len,
      d_shown := .mk0 hl_shown hc_shown hk_shown,
      d_steps_right := .mk0 hl_steps_right hc_steps_right hk_steps_right,
      d_law := .mk0 hl_law hc_law hk_law,
      k_Store := ⟨pg_Store, hd_Store, po_Store, sa_Store⟩,
      mk_Store := ⟨ms_Store, hf_Store_init, hi_Store_init, kp_Store⟩,
      a_Store_late := na_Store_late,
      a_Store_held := na_Store_held,
      a_Store_last := na_Store_last,
      a_Store_places := na_Store_places,
      a_BadValue_what := na_BadValue_what,
      a_Unfit_place := na_Unfit_place,
      me_Store_put := ⟨hf_Store_put, hi_Store_put, hk_Store_put⟩,
      len_Store := hf_Store_len,
      lenf_Store := hi_Store_len,
      n_list := PySem.W.mg_none_of X G hn_list,
      n_int := PySem.W.mg_none_of X G hn_int,
      n_len := PySem.W.mg_none_of X G hn_len,
      n_abs := PySem.W.mg_none_of X G hn_abs,
      n_range := PySem.W.mg_none_of X G hn_range,
      n_isinstance := PySem.W.mg_none_of X G hn_isinstance,
      n_bool := PySem.W.mg_none_of X G hn_bool,
      n_sorted := PySem.W.mg_none_of X G hn_sorted,
      n_tuple := PySem.W.mg_none_of X G hn_tuple,
      n_enumerate := PySem.W.mg_none_of X G hn_enumerate,
      n_repr := PySem.W.mg_none_of X G hn_repr,
      c_MOST_LATE := ⟨uc_MOST_LATE, PySem.W.mg_of X G hg_MOST_LATE, hr_MOST_LATE⟩,
      su_BadValue := .mk0 hl_BadValue_init hc_BadValue_init hd_BadValue_init hv_BadValue_init hw_BadValue_init he_BadValue_init hx_BadValue_init h_top (PySem.W.mg_none_of X G h_super) h_any,
      su_Unfit := .mk0 hl_Unfit_init hc_Unfit_init hd_Unfit_init hv_Unfit_init hw_Unfit_init he_Unfit_init hx_Unfit_init h_top (PySem.W.mg_none_of X G h_super) h_any,
      su_PostError := .mk0 hl_PostError_init hc_PostError_init hd_PostError_init hv_PostError_init hw_PostError_init he_PostError_init hx_PostError_init h_top (PySem.W.mg_none_of X G h_super) h_any,
      o_BadValue := ⟨oex_of hO_BadValue ho_BadValue, hs_BadValue, hb_BadValue, ht_BadValue, hq_BadValue⟩,
      in_BadValue := hf_BadValue_init,
      ty_BadValue := hy_BadValue,
      ec_BadValue := ⟨⟨oex_of hO_BadValue ho_BadValue, hs_BadValue, hb_BadValue, ht_BadValue, hq_BadValue⟩, hmp_BadValue, hsi_BadValue, hve_BadValue, hvt_BadValue⟩,
      ms_BadValue := hms_BadValue,
      ss_BadValue := hss_BadValue,
      o_Unfit := ⟨oex_of hO_Unfit ho_Unfit, hs_Unfit, hb_Unfit, ht_Unfit, hq_Unfit⟩,
      in_Unfit := hf_Unfit_init,
      ty_Unfit := hy_Unfit,
      ec_Unfit := ⟨⟨oex_of hO_Unfit ho_Unfit, hs_Unfit, hb_Unfit, ht_Unfit, hq_Unfit⟩, hmp_Unfit, hsi_Unfit, hve_Unfit, hvt_Unfit⟩,
      ms_Unfit := hms_Unfit,
      ss_Unfit := hss_Unfit,
      ty_post := hyp_post,
      fn_post := hfn_post,
      x_BadValue := ⟨xa_BadValue, xb_BadValue, xe_BadValue, xd_BadValue⟩,
      x_Unfit := ⟨xa_Unfit, xb_Unfit, xe_Unfit, xd_Unfit⟩,
      t_BadValue := ⟨⟨xa_BadValue, xb_BadValue, xe_BadValue, xd_BadValue⟩, tc_BadValue, ts_get, ts_tak, tm_BadValue⟩,
      i_BadValue_PostError := ik_BadValue_PostError,
      ce_PostError_BadValue := ck_PostError_BadValue,
      ce_BadValue_BadValue := ck_BadValue_BadValue,
      ce_Unfit_BadValue := ck_Unfit_BadValue,
      ce_PostError_Unfit := ck_PostError_Unfit,
      ce_BadValue_Unfit := ck_BadValue_Unfit,
      ce_Unfit_Unfit := ck_Unfit_Unfit }
  exact ⟨gl _, _, fun s v => .of_eq rfl, fun base _ _ => p_law T⟩
end Lk60
end part_Wk60

section part_Q1
set_option Elab.async false
set_option linter.all false
set_option maxRecDepth 100000
set_option maxHeartbeats 1000000
namespace Lk60
open PySem U
def pen (ns : List Int) (a r : Int) : D := .lst [.lst (ns.map .int), .int a, .int r]
theorem draw_a (ns : List Int) (a r m : Int) (p : Bool) (hr : 0 < r) (hm : 0 < m) (hm2 : m.natAbs.log2 < 9000) :
    v_draw [some (.own true (pen ns a r)), some (.val p (.int m))] = .ok (.v (.int (r % m))) [some (.own true (pen ns a (r / m))), none] := by
  unfold v_draw f_draw_0 pen
  simp (config := {decide := true}) [-List.map_map, U.escA_vs, U.escA_v0, U.gInt, U.gLen, U.gAbs, U.gList, U.gTuple, U.gSub, U.gAdd, U.gAddI, U.gAddN, U.gNeg, U.gLt, U.gLe, U.gGt, U.gGe, U.gIsN, U.isNon, U.gIdx, U.gMod, U.gDiv, U.lmAppend, U.lmExtend, U.lmReverse, U.truD, U.seqD, U.tagOf, U.clsOf, U.isTab, U.gIsi, U.isBox, U.isBo, U.lkB, L2.atI, L2.ixN, hr, hm, hm2]
/-- the cell that a draw looks at -/
def cell (ns : List Int) (a : Int) : Int := if ns = [] then 67939 * a + 2897 else ns.getD (a % ns.length).toNat 0
/-- f_draw_5's end at a cell that is not great -/
theorem draw_t (ns : List Int) (a r m c : Int) (p : Bool) (ha : 0 ≤ a) (ha2 : a < 1000000) (hm : 0 < m) (hm2 : m.natAbs.log2 < 9000) :
    ∃ d z, f_draw_6 [some (.own true (pen ns (a+1) r)), some (.val p (.int m)), none, some (.val false (.int a)), some (.val false (.int c)), none, none] = .rt (.v (.int d)) [some (.own true (pen ns (a+1) r)), some (.val p (.int m)), none, some (.val false (.int a)), some (.val false (.int c)), none, some (.val false z)] ∧ 0 ≤ d ∧ d < m := by
  have m2 : gMul (.int 43627) (.int a) = some (.v (.int (43627 * a))) := mul_ok (by decide) (by omega)
  have m3 : gMul (.int 2) (.int a) = some (.v (.int (2 * a))) := mul_ok (by decide) (by omega)
  have m4 : gMul (.int 64709) (.int a) = some (.v (.int (64709 * a))) := mul_ok (by decide) (by omega)
  have m5 : gMul (.int (64709 * a)) (.int a) = some (.v (.int (64709 * a * a))) := mul_ok (by omega) (by omega)
  have h1 : 0 ≤ c % 2147483647 := Int.emod_nonneg _ (by decide)
  have h2 : c % 2147483647 < 2147483647 := Int.emod_lt_of_pos _ (by decide)
  have q1 : gPow (.int (c % 2147483647 + 43627 * a + 1489)) (.int 5) = some (.v (.int ((c % 2147483647 + 43627 * a + 1489) ^ 5))) := pow_ok (n := 5) (by omega) (by decide)
  generalize hx : (c % 2147483647 + 43627 * a + 1489) ^ 5 = x at q1
  have h3 : 0 ≤ x % 2147483497 := Int.emod_nonneg _ (by decide)
  have h4 : x % 2147483497 < 2147483497 := Int.emod_lt_of_pos _ (by decide)
  have m6 : gMul (.int (x % 2147483497)) (.int (2 * a + 541)) = some (.v (.int (x % 2147483497 * (2 * a + 541)))) := mul_ok (by omega) (by omega)
  have b1 : 0 ≤ x % 2147483497 * (2 * a + 541) := Int.mul_nonneg h3 (by omega)
  have b2 : x % 2147483497 * (2 * a + 541) ≤ 2147483497 * 3000000 := Int.mul_le_mul (by omega) (by omega) (by omega) (by omega)
  have b3 : 0 ≤ 64709 * a * a := Int.mul_nonneg (by omega) ha
  have b4 : 64709 * a * a ≤ 64709000000 * 1000000 := Int.mul_le_mul (by omega) (by omega) (by omega) (by omega)
  have q2 : gPow (.int (x % 2147483497 * (2 * a + 541) + 64709 * a * a + 317)) (.int 3) = some (.v (.int ((x % 2147483497 * (2 * a + 541) + 64709 * a * a + 317) ^ 3))) := pow_ok (n := 3) (by omega) (by decide)
  generalize hy : (x % 2147483497 * (2 * a + 541) + 64709 * a * a + 317) ^ 3 = y at q2
  refine ⟨(y % 2147483269 / 32) % m, .int (y % 2147483269), ?_, Int.emod_nonneg _ (by omega), Int.emod_lt_of_pos _ hm⟩
  unfold f_draw_6 f_draw_7 f_draw_8 pen
  simp (config := {decide := true}) [-List.map_map, U.escA_vs, U.escA_v0, U.gInt, U.gLen, U.gAbs, U.gList, U.gTuple, U.gSub, U.gAdd, U.gAddI, U.gAddN, U.gNeg, U.gLt, U.gLe, U.gGt, U.gGe, U.gIsN, U.isNon, U.gIdx, U.gMod, U.gDiv, U.lmAppend, U.lmExtend, U.lmReverse, U.truD, U.seqD, U.tagOf, U.clsOf, U.isTab, U.gIsi, U.isBox, U.isBo, U.lkB, L2.atI, L2.ixN, hm, hm2, m2, m3, m4, m5, m6, q1, q2]
theorem draw_n (ns : List Int) (a r m : Int) (p : Bool) (ha : 0 ≤ a) (ha2 : a < 1000000) (hr : ¬ 0 < r) (hm : 0 < m) (hm2 : m.natAbs.log2 < 9000) : ∃ c : Int,
    v_draw [some (.own true (pen ns a r)), some (.val p (.int m))] = k_body [some (.own true (pen ns a r)), some (.val p (.int m))] (f_draw_5 [some (.own true (pen ns (a+1) r)), some (.val p (.int m)), none, some (.val false (.int a)), some (.val false (.int c)), none, none]) := by
  have m1 : gMul (.int 67939) (.int a) = some (.v (.int (67939 * a))) := mul_ok (by decide) (by omega)
  by_cases hn : ns = []
  · refine ⟨67939 * a + 2897, ?_⟩
    subst hn
    unfold v_draw f_draw_0 f_draw_1 f_draw_2 f_draw_3 f_draw_4 pen
    simp (config := {decide := true}) [-List.map_map, U.escA_vs, U.escA_v0, U.gInt, U.gLen, U.gAbs, U.gList, U.gTuple, U.gSub, U.gAdd, U.gAddI, U.gAddN, U.gNeg, U.gLt, U.gLe, U.gGt, U.gGe, U.gIsN, U.isNon, U.gIdx, U.gMod, U.gDiv, U.lmAppend, U.lmExtend, U.lmReverse, U.truD, U.seqD, U.tagOf, U.clsOf, U.isTab, U.gIsi, U.isBox, U.isBo, U.lkB, L2.atI, L2.ixN, hr, hm, hm2, m1, eq_listN]
    have e := eq_listN (n := true) (ms := [])
    simp at e
    simp (config := {decide := true}) [-List.map_map, U.escA_vs, U.escA_v0, U.gInt, U.gLen, U.gAbs, U.gList, U.gTuple, U.gSub, U.gAdd, U.gAddI, U.gAddN, U.gNeg, U.gLt, U.gLe, U.gGt, U.gGe, U.gIsN, U.isNon, U.gIdx, U.gMod, U.gDiv, U.lmAppend, U.lmExtend, U.lmReverse, U.truD, U.seqD, U.tagOf, U.clsOf, U.isTab, U.gIsi, U.isBox, U.isBo, U.lkB, L2.atI, L2.ixN, e]
  · have hl : 0 < ns.length := List.length_pos_iff.mpr hn
    have i1 : 0 ≤ a % ns.length := Int.emod_nonneg _ (by omega)
    have i2 : a % ns.length < ns.length := Int.emod_lt_of_pos _ (by omega)
    have i3 : (a % ns.length).toNat < ns.length := by omega
    refine ⟨ns[(a % ns.length).toNat], ?_⟩
    unfold v_draw f_draw_0 f_draw_1 f_draw_2 f_draw_3 f_draw_4 pen
    simp (config := {decide := true}) [-List.map_map, U.escA_vs, U.escA_v0, U.gInt, U.gLen, U.gAbs, U.gList, U.gTuple, U.gSub, U.gAdd, U.gAddI, U.gAddN, U.gNeg, U.gLt, U.gLe, U.gGt, U.gGe, U.gIsN, U.isNon, U.gIdx, U.gMod, U.gDiv, U.lmAppend, U.lmExtend, U.lmReverse, U.truD, U.seqD, U.tagOf, U.clsOf, U.isTab, U.gIsi, U.isBox, U.isBo, U.lkB, L2.atI, L2.ixN, hr, hm, hm2, m1, eq_listN, hn, hl, i1, i2, i3]
/-- a draw -/
theorem draw_ok (ns : List Int) (a r m : Int) (p : Bool) (ha : 0 ≤ a) (ha2 : a < 1000000) (hm : 0 < m) (hm2 : m.natAbs.log2 < 9000) (hr0 : 0 ≤ r) : ∃ d a' r',
    v_draw [some (.own true (pen ns a r)), some (.val p (.int m))] = .ok (.v (.int d)) [some (.own true (pen ns a' r')), none] ∧ 0 ≤ d ∧ d < m ∧ a ≤ a' ∧ a' ≤ a + 1 ∧ 0 ≤ r' := by
  by_cases hr : 0 < r
  · exact ⟨r % m, a, r / m, draw_a ns a r m p hr hm hm2, Int.emod_nonneg _ (by omega), Int.emod_lt_of_pos _ hm, by omega, by omega, Int.ediv_nonneg hr0 (by omega)⟩
  · obtain ⟨c, e⟩ := draw_n ns a r m p ha ha2 hr hm hm2
    obtain ⟨d, z, e2, h1, h2⟩ := draw_t ns a r m c p ha ha2 hm hm2
    have q : gPow (.int 10) (.int 18) = some (.v (.int (10 ^ 18))) := pow_ok (n := 18) (by decide) (by decide)
    by_cases g1 : a < ns.length
    · by_cases g2 : (1000000000000000000 : Int) ≤ (if c < 0 then -c else c)
      · refine ⟨((if c < 0 then -c else c) - 1000000000000000000) % m, a + 1, ((if c < 0 then -c else c) - 1000000000000000000) / m, ?_, Int.emod_nonneg _ (by omega), Int.emod_lt_of_pos _ hm, by omega, by omega, Int.ediv_nonneg (by omega) (by omega)⟩
        rw [e]
        unfold f_draw_5 pen
        simp (config := {decide := true}) [-List.map_map, U.escA_vs, U.escA_v0, U.gInt, U.gLen, U.gAbs, U.gList, U.gTuple, U.gSub, U.gAdd, U.gAddI, U.gAddN, U.gNeg, U.gLt, U.gLe, U.gGt, U.gGe, U.gIsN, U.isNon, U.gIdx, U.gMod, U.gDiv, U.lmAppend, U.lmExtend, U.lmReverse, U.truD, U.seqD, U.tagOf, U.clsOf, U.isTab, U.gIsi, U.isBox, U.isBo, U.lkB, L2.atI, L2.ixN, g1, q, g2, hm, hm2]
      · refine ⟨d, a + 1, r, ?_, h1, h2, by omega, by omega, hr0⟩
        rw [e]
        unfold f_draw_5
        unfold pen at e2 ⊢
        simp (config := {decide := true}) [-List.map_map, U.escA_vs, U.escA_v0, U.gInt, U.gLen, U.gAbs, U.gList, U.gTuple, U.gSub, U.gAdd, U.gAddI, U.gAddN, U.gNeg, U.gLt, U.gLe, U.gGt, U.gGe, U.gIsN, U.isNon, U.gIdx, U.gMod, U.gDiv, U.lmAppend, U.lmExtend, U.lmReverse, U.truD, U.seqD, U.tagOf, U.clsOf, U.isTab, U.gIsi, U.isBox, U.isBo, U.lkB, L2.atI, L2.ixN, g1, q, g2, hm, hm2, e2]
    · refine ⟨d, a + 1, r, ?_, h1, h2, by omega, by omega, hr0⟩
      rw [e]
      unfold f_draw_5
      unfold pen at e2 ⊢
      simp (config := {decide := true}) [-List.map_map, U.escA_vs, U.escA_v0, U.gInt, U.gLen, U.gAbs, U.gList, U.gTuple, U.gSub, U.gAdd, U.gAddI, U.gAddN, U.gNeg, U.gLt, U.gLe, U.gGt, U.gGe, U.gIsN, U.isNon, U.gIdx, U.gMod, U.gDiv, U.lmAppend, U.lmExtend, U.lmReverse, U.truD, U.seqD, U.tagOf, U.clsOf, U.isTab, U.gIsi, U.isBox, U.isBo, U.lkB, L2.atI, L2.ixN, g1, hm, hm2, e2]

end Lk60
end part_Q1

section part_Q2
set_option Elab.async false
set_option linter.all false
set_option maxRecDepth 100000
set_option maxHeartbeats 1000000
namespace Lk60
open PySem U
/-- a pen after at most k draws -/
def PenOk (x : D) (k : Nat) : Prop := ∃ ns a r, x = pen ns a r ∧ 0 ≤ a ∧ a ≤ (k : Int) ∧ 0 ≤ r
theorem draw_s {x : D} {k : Nat} {m : Int} {p : Bool} (h : PenOk x k) (hk : k < 1000000) (hm : 0 < m) (hm2 : m.natAbs < 2 ^ 250) : ∃ d x', v_draw [some (.own true x), some (.val p (.int m))] = .ok (.v (.int d)) [some (.own true x'), none] ∧ 0 ≤ d ∧ d < m ∧ PenOk x' (k + 1) := by
  obtain ⟨ns, a, r, rfl, h1, h2, h3⟩ := h
  have hm3 : m.natAbs.log2 < 9000 := by have := log2_of (by decide) hm2; omega
  obtain ⟨d, a', r', e, q1, q2, q3, q4, q5⟩ := draw_ok ns a r m p h1 (by omega) hm hm3 h3
  exact ⟨d, _, e, q1, q2, ns, a', r', rfl, by omega, by omega, q5⟩
theorem pick_s {x : D} {k : Nat} {xs : List D} {p : Bool} (h : PenOk x k) (hk : k < 1000000) (hx : xs ≠ []) (hl : xs.length < 1000000) : ∃ d x', d ∈ xs ∧ v_pick [some (.own true x), some (.val p (.lst xs))] = .ok (.v d) [some (.own true x'), none] ∧ PenOk x' (k + 1) := by
  have h0 : 0 < xs.length := List.length_pos_iff.mpr hx
  obtain ⟨d, x', e, q1, q2, q3⟩ := draw_s (p := false) (m := (xs.length : Int)) h hk (by omega) (by omega)
  have i3 : d.toNat < xs.length := by omega
  refine ⟨xs[d.toNat], x', List.getElem_mem i3, ?_, q3⟩
  unfold v_pick f_pick_0
  simp (config := {decide := true}) [-List.map_map, U.escA_vs, U.escA_v0, U.gInt, U.gLen, U.gAbs, U.gList, U.gTuple, U.gSub, U.gAdd, U.gAddI, U.gAddN, U.gNeg, U.gLt, U.gLe, U.gGt, U.gGe, U.gIsN, U.isNon, U.gIdx, U.gMod, U.gDiv, U.lmAppend, U.lmExtend, U.lmReverse, U.truD, U.seqD, U.tagOf, U.clsOf, U.isTab, U.gIsi, U.isBox, U.isBo, U.lkB, L2.atI, L2.ixN, e, q1, q2, i3]
/-! ### numbers -/
theorem isn_int {p q : Bool} {i b : Int} : v_is_number [some (.val p (.int i)), some (.val q (.int b))] = .ok (.v (.bl (decide (0 ≤ i ∧ i < b)))) [none, none] := by
  unfold v_is_number f_is_number_0 tab_int tab_bool
  by_cases h : 0 ≤ i <;> simp (config := {decide := true}) [-List.map_map, U.escA_vs, U.escA_v0, U.gInt, U.gLen, U.gAbs, U.gList, U.gTuple, U.gSub, U.gAdd, U.gAddI, U.gAddN, U.gNeg, U.gLt, U.gLe, U.gGt, U.gGe, U.gIsN, U.isNon, U.gIdx, U.gMod, U.gDiv, U.lmAppend, U.lmExtend, U.lmReverse, U.truD, U.seqD, U.tagOf, U.clsOf, U.isTab, U.gIsi, U.isBox, U.isBo, U.lkB, L2.atI, L2.ixN, h]
def odd : D → Bool
  | .non => true | .bl _ => true | .str _ => true | .tup _ => true | .lst _ => true | _ => false
theorem isn_odd {p q : Bool} {d : D} {b : Int} (h : odd d = true) : v_is_number [some (.val p d), some (.val q (.int b))] = .ok (.v (.bl false)) [none, none] := by
  unfold v_is_number f_is_number_0 tab_int tab_bool
  cases d <;> simp [odd] at h <;> simp (config := {decide := true}) [-List.map_map, U.escA_vs, U.escA_v0, U.gInt, U.gLen, U.gAbs, U.gList, U.gTuple, U.gSub, U.gAdd, U.gAddI, U.gAddN, U.gNeg, U.gLt, U.gLe, U.gGt, U.gGe, U.gIsN, U.isNon, U.gIdx, U.gMod, U.gDiv, U.lmAppend, U.lmExtend, U.lmReverse, U.truD, U.seqD, U.tagOf, U.clsOf, U.isTab, U.gIsi, U.isBox, U.isBo, U.lkB, L2.atI, L2.ixN]
/-! ### the store -/
def storeD (late : Int) (rows : List Int) (last : D) (pl : Int) : D := .obj 3 ["late", "held", "last", "places"] [.int late, .tup (rows.map .int), last, .int pl]
theorem init_ok {late : Int} {p : Bool} (h1 : 0 ≤ late) (h2 : late < 21) : v_Store_init [some (.own true (.obj 3 [] [])), some (.val p (.int late))] = .ok (.v .non) [some (.own true (storeD late [] .non 0)), none] := by
  unfold v_Store_init f_Store_init_0 f_Store_init_1 f_Store_init_2 f_Store_init_3 f_Store_init_4 storeD
  simp (config := {decide := true}) [-List.map_map, U.escA_vs, U.escA_v0, U.gInt, U.gLen, U.gAbs, U.gList, U.gTuple, U.gSub, U.gAdd, U.gAddI, U.gAddN, U.gNeg, U.gLt, U.gLe, U.gGt, U.gGe, U.gIsN, U.isNon, U.gIdx, U.gMod, U.gDiv, U.lmAppend, U.lmExtend, U.lmReverse, U.truD, U.seqD, U.tagOf, U.clsOf, U.isTab, U.gIsi, U.isBox, U.isBo, U.lkB, L2.atI, L2.ixN, isn_int, h1, h2]
def badD (w : Str) : D := .obj 1 ["what", "values_told"] [.str w, .tup [.str "not of its kind"]]
theorem init_bad {d : D} {p : Bool} (h : odd d = true ∨ ∃ i, d = .int i ∧ ¬ (0 ≤ i ∧ i < 21)) : v_Store_init [some (.own true (.obj 3 [] [])), some (.val p d)] = .ex (badD "late") [some (.own true (.obj 3 [] [])), none] := by
  unfold v_Store_init f_Store_init_0 badD
  rcases h with h | ⟨i, rfl, h⟩
  · simp (config := {decide := true}) [-List.map_map, U.escA_vs, U.escA_v0, U.gInt, U.gLen, U.gAbs, U.gList, U.gTuple, U.gSub, U.gAdd, U.gAddI, U.gAddN, U.gNeg, U.gLt, U.gLe, U.gGt, U.gGe, U.gIsN, U.isNon, U.gIdx, U.gMod, U.gDiv, U.lmAppend, U.lmExtend, U.lmReverse, U.truD, U.seqD, U.tagOf, U.clsOf, U.isTab, U.gIsi, U.isBox, U.isBo, U.lkB, L2.atI, L2.ixN, isn_odd h]
  · have e : decide (0 ≤ i ∧ i < 21) = false := decide_eq_false h
    simp (config := {decide := true}) [-List.map_map, U.escA_vs, U.escA_v0, U.gInt, U.gLen, U.gAbs, U.gList, U.gTuple, U.gSub, U.gAdd, U.gAddI, U.gAddN, U.gNeg, U.gLt, U.gLe, U.gGt, U.gGe, U.gIsN, U.isNon, U.gIdx, U.gMod, U.gDiv, U.lmAppend, U.lmExtend, U.lmReverse, U.truD, U.seqD, U.tagOf, U.clsOf, U.isTab, U.gIsi, U.isBox, U.isBo, U.lkB, L2.atI, L2.ixN, isn_int, e]
theorem put_bad {d S : D} {p : Bool} (h : odd d = true ∨ ∃ i, d = .int i ∧ ¬ (0 ≤ i ∧ i < 10 ^ 60)) : v_Store_put [some (.own true S), some (.val p d)] = .ex (badD "number") [some (.own true S), none] := by
  unfold v_Store_put f_Store_put_0 badD
  rcases h with h | ⟨i, rfl, h⟩
  · simp (config := {decide := true}) [-List.map_map, U.escA_vs, U.escA_v0, U.gInt, U.gLen, U.gAbs, U.gList, U.gTuple, U.gSub, U.gAdd, U.gAddI, U.gAddN, U.gNeg, U.gLt, U.gLe, U.gGt, U.gGe, U.gIsN, U.isNon, U.gIdx, U.gMod, U.gDiv, U.lmAppend, U.lmExtend, U.lmReverse, U.truD, U.seqD, U.tagOf, U.clsOf, U.isTab, U.gIsi, U.isBox, U.isBo, U.lkB, L2.atI, L2.ixN, isn_odd h]
  · have e : decide (0 ≤ i ∧ i < 1000000000000000000000000000000000000000000000000000000000000) = false := decide_eq_false h
    simp (config := {decide := true}) [-List.map_map, U.escA_vs, U.escA_v0, U.gInt, U.gLen, U.gAbs, U.gList, U.gTuple, U.gSub, U.gAdd, U.gAddI, U.gAddN, U.gNeg, U.gLt, U.gLe, U.gGt, U.gGe, U.gIsN, U.isNon, U.gIdx, U.gMod, U.gDiv, U.lmAppend, U.lmExtend, U.lmReverse, U.truD, U.seqD, U.tagOf, U.clsOf, U.isTab, U.gIsi, U.isBox, U.isBo, U.lkB, L2.atI, L2.ixN, isn_int, e]
def unfitD (pl : Int) : D := .obj 2 ["place", "values_told"] [.int pl, .tup [.str "no run fits"]]
def lastD : Option Int → D
  | none => .non
  | some l => .int l
theorem put_unfit {late pl l n : Int} {rows : List Int} {p : Bool} (h1 : 0 ≤ n) (h2 : n < 10 ^ 60) (h : n < l) : v_Store_put [some (.own true (storeD late rows (.int l) pl)), some (.val p (.int n))] = .ex (unfitD pl) [some (.own true (storeD late rows (.int l) pl)), none] := by
  have e : decide (0 ≤ n ∧ n < 1000000000000000000000000000000000000000000000000000000000000) = true := decide_eq_true ⟨h1, h2⟩
  unfold v_Store_put f_Store_put_0 f_Store_put_1 storeD unfitD
  simp (config := {decide := true}) [-List.map_map, U.escA_vs, U.escA_v0, U.gInt, U.gLen, U.gAbs, U.gList, U.gTuple, U.gSub, U.gAdd, U.gAddI, U.gAddN, U.gNeg, U.gLt, U.gLe, U.gGt, U.gGe, U.gIsN, U.isNon, U.gIdx, U.gMod, U.gDiv, U.lmAppend, U.lmExtend, U.lmReverse, U.truD, U.seqD, U.tagOf, U.clsOf, U.isTab, U.gIsi, U.isBox, U.isBo, U.lkB, L2.atI, L2.ixN, isn_int, e, h]
theorem srt_len {ns : List Int} : (srt ns).length = ns.length := by unfold srt; exact List.length_mergeSort ns
theorem put_fit {late pl n : Int} {last : Option Int} {rows : List Int} {p : Bool} (h1 : 0 ≤ n) (h2 : n < 10 ^ 60) (h : ∀ l, last = some l → ¬ n < l) (hl : rows.length < 1000) :
    v_Store_put [some (.own true (storeD late rows (lastD last) pl)), some (.val p (.int n))] = k_body [some (.own true (storeD late rows (lastD last) pl)), some (.val p (.int n))] (f_Store_put_4 [some (.own true (storeD late rows (lastD last) (pl + 1))), some (.val p (.int n)), some (.own false (.lst ((srt (rows ++ [n])).map .int)))]) := by
  have e : decide (0 ≤ n ∧ n < 1000000000000000000000000000000000000000000000000000000000000) = true := decide_eq_true ⟨h1, h2⟩
  have s := sorted_ints (ns := rows ++ [n])
  simp only [List.map_append, List.map_cons, List.map_nil] at s
  have hb : rows.length + 1 ≤ big := by show _ ≤ 1000000; omega
  unfold v_Store_put f_Store_put_0 f_Store_put_1 f_Store_put_2 f_Store_put_3 storeD
  cases last with
  | none => simp (config := {decide := true}) [-List.map_map, U.escA_vs, U.escA_v0, U.gInt, U.gLen, U.gAbs, U.gList, U.gTuple, U.gSub, U.gAdd, U.gAddI, U.gAddN, U.gNeg, U.gLt, U.gLe, U.gGt, U.gGe, U.gIsN, U.isNon, U.gIdx, U.gMod, U.gDiv, U.lmAppend, U.lmExtend, U.lmReverse, U.truD, U.seqD, U.tagOf, U.clsOf, U.isTab, U.gIsi, U.isBox, U.isBo, U.lkB, L2.atI, L2.ixN, isn_int, e, lastD, s, hb]
  | some l => simp (config := {decide := true}) [-List.map_map, U.escA_vs, U.escA_v0, U.gInt, U.gLen, U.gAbs, U.gList, U.gTuple, U.gSub, U.gAdd, U.gAddI, U.gAddN, U.gNeg, U.gLt, U.gLe, U.gGt, U.gGe, U.gIsN, U.isNon, U.gIdx, U.gMod, U.gDiv, U.lmAppend, U.lmExtend, U.lmReverse, U.truD, U.seqD, U.tagOf, U.clsOf, U.isTab, U.gIsi, U.isBox, U.isBo, U.lkB, L2.atI, L2.ixN, isn_int, e, lastD, h l rfl, s, hb]
theorem put_keep {late pl n : Int} {last : Option Int} {rows : List Int} {p : Bool} (h1 : 0 ≤ n) (h2 : n < 10 ^ 60) (h : ∀ l, last = some l → ¬ n < l) (hl : rows.length < 1000) (hk : (rows.length : Int) + 1 ≤ late) :
    v_Store_put [some (.own true (storeD late rows (lastD last) pl)), some (.val p (.int n))] = .ok (.v .non) [some (.own true (storeD late (srt (rows ++ [n])) (lastD last) (pl + 1))), none] := by
  rw [put_fit h1 h2 h hl]
  have e : (srt (rows ++ [n])).length = rows.length + 1 := by rw [srt_len]; simp
  generalize srt (rows ++ [n]) = R at e
  unfold f_Store_put_4 storeD
  simp (config := {decide := true}) [-List.map_map, U.escA_vs, U.escA_v0, U.gInt, U.gLen, U.gAbs, U.gList, U.gTuple, U.gSub, U.gAdd, U.gAddI, U.gAddN, U.gNeg, U.gLt, U.gLe, U.gGt, U.gGe, U.gIsN, U.isNon, U.gIdx, U.gMod, U.gDiv, U.lmAppend, U.lmExtend, U.lmReverse, U.truD, U.seqD, U.tagOf, U.clsOf, U.isTab, U.gIsi, U.isBox, U.isBo, U.lkB, L2.atI, L2.ixN, e, hk]
theorem put_out {late pl n a : Int} {last : Option Int} {rows t : List Int} {p : Bool} (h1 : 0 ≤ n) (h2 : n < 10 ^ 60) (h : ∀ l, last = some l → ¬ n < l) (hl : rows.length < 1000) (hk : ¬ (rows.length : Int) + 1 ≤ late) (hR : srt (rows ++ [n]) = a :: t) :
    v_Store_put [some (.own true (storeD late rows (lastD last) pl)), some (.val p (.int n))] = .ok (.v (.int a)) [some (.own true (storeD late t (.int a) (pl + 1))), none] := by
  rw [put_fit h1 h2 h hl]
  have e : (srt (rows ++ [n])).length = rows.length + 1 := by rw [srt_len]; simp
  rw [hR] at e ⊢
  have e2 : t.length = rows.length := by simpa using e
  unfold f_Store_put_4 f_Store_put_5 f_Store_put_6 f_Store_put_7 storeD
  simp (config := {decide := true}) [-List.map_map, U.escA_vs, U.escA_v0, U.gInt, U.gLen, U.gAbs, U.gList, U.gTuple, U.gSub, U.gAdd, U.gAddI, U.gAddN, U.gNeg, U.gLt, U.gLe, U.gGt, U.gGe, U.gIsN, U.isNon, U.gIdx, U.gMod, U.gDiv, U.lmAppend, U.lmExtend, U.lmReverse, U.truD, U.seqD, U.tagOf, U.clsOf, U.isTab, U.gIsi, U.isBox, U.isBo, U.lkB, L2.atI, L2.ixN, e2, hk, gSl, cutD, HT.sIx]
  rw [List.take_of_length_le (by simp [e2])]
/-! the law's own put -/
theorem lput_bad {d S : D} {p : Bool} {late pl : Int} {rows : List Int} {last : D} (hS : S = storeD late rows last pl) (h : odd d = true ∨ ∃ i, d = .int i ∧ ¬ (0 ≤ i ∧ i < 10 ^ 60)) : v_put [some (.own true S), some (.val p d)] = .ok (.v (.tup [.str "bad", .str "number"])) [some (.own true S), none] := by
  have e := put_bad (S := S) (p := false) h
  subst hS
  unfold v_put f_put_0 f_put_1 f_put_2 f_put_3
  unfold badD storeD at *
  simp (config := {decide := true}) [-List.map_map, U.escA_vs, U.escA_v0, U.gInt, U.gLen, U.gAbs, U.gList, U.gTuple, U.gSub, U.gAdd, U.gAddI, U.gAddN, U.gNeg, U.gLt, U.gLe, U.gGt, U.gGe, U.gIsN, U.isNon, U.gIdx, U.gMod, U.gDiv, U.lmAppend, U.lmExtend, U.lmReverse, U.truD, U.seqD, U.tagOf, U.clsOf, U.isTab, U.gIsi, U.isBox, U.isBo, U.lkB, L2.atI, L2.ixN, e]
theorem lput_unfit {late pl l n : Int} {rows : List Int} {p : Bool} (h1 : 0 ≤ n) (h2 : n < 10 ^ 60) (h : n < l) : v_put [some (.own true (storeD late rows (.int l) pl)), some (.val p (.int n))] = .ok (.v (.tup [.str "unfit", .int pl])) [some (.own true (storeD late rows (.int l) pl)), none] := by
  have e := put_unfit (late := late) (pl := pl) (rows := rows) (p := false) h1 h2 h
  unfold v_put f_put_0 f_put_1 f_put_2 f_put_3
  unfold unfitD storeD at *
  simp (config := {decide := true}) [-List.map_map, U.escA_vs, U.escA_v0, U.gInt, U.gLen, U.gAbs, U.gList, U.gTuple, U.gSub, U.gAdd, U.gAddI, U.gAddN, U.gNeg, U.gLt, U.gLe, U.gGt, U.gGe, U.gIsN, U.isNon, U.gIdx, U.gMod, U.gDiv, U.lmAppend, U.lmExtend, U.lmReverse, U.truD, U.seqD, U.tagOf, U.clsOf, U.isTab, U.gIsi, U.isBox, U.isBo, U.lkB, L2.atI, L2.ixN, e]
theorem lput_ok {late pl n pl2 : Int} {last last2 d : D} {rows rows2 : List Int} {p : Bool} (e : v_Store_put [some (.own true (storeD late rows last pl)), some (.val false (.int n))] = .ok (.v d) [some (.own true (storeD late rows2 last2 pl2)), none]) :
    v_put [some (.own true (storeD late rows last pl)), some (.val p (.int n))] = .ok (.v (.tup [.str "put", d])) [some (.own true (storeD late rows2 last2 pl2)), none] := by
  unfold v_put f_put_0 f_put_1 f_put_2 f_put_3
  unfold storeD at *
  simp (config := {decide := true}) [-List.map_map, U.escA_vs, U.escA_v0, U.gInt, U.gLen, U.gAbs, U.gList, U.gTuple, U.gSub, U.gAdd, U.gAddI, U.gAddN, U.gNeg, U.gLt, U.gLe, U.gGt, U.gGe, U.gIsN, U.isNon, U.gIdx, U.gMod, U.gDiv, U.lmAppend, U.lmExtend, U.lmReverse, U.truD, U.seqD, U.tagOf, U.clsOf, U.isTab, U.gIsi, U.isBox, U.isBo, U.lkB, L2.atI, L2.ixN, e]
theorem len_ok {late pl : Int} {last : D} {rows : List Int} : v_Store_len [some (.own true (storeD late rows last pl))] = .ok (.v (.int rows.length)) [some (.own true (storeD late rows last pl))] := by
  unfold v_Store_len f_Store_len_0 storeD
  simp (config := {decide := true}) [-List.map_map, U.escA_vs, U.escA_v0, U.gInt, U.gLen, U.gAbs, U.gList, U.gTuple, U.gSub, U.gAdd, U.gAddI, U.gAddN, U.gNeg, U.gLt, U.gLe, U.gGt, U.gGe, U.gIsN, U.isNon, U.gIdx, U.gMod, U.gDiv, U.lmAppend, U.lmExtend, U.lmReverse, U.truD, U.seqD, U.tagOf, U.clsOf, U.isTab, U.gIsi, U.isBox, U.isBo, U.lkB, L2.atI, L2.ixN]

end Lk60
end part_Q2

section part_Q3
set_option Elab.async false
set_option linter.all false
set_option maxRecDepth 100000
set_option maxHeartbeats 1000000
namespace Lk60
open PySem U
theorem lenV_s {fv : EV} {ρ ρ1 : Ro} {n : Nat} (h : fv ρ = .ok (.v (.int n)) ρ1) (hn : n < 2 ^ 62) : lenV fv ρ = .ok (.v (.int n)) ρ1 := by
  rw [r_lenV, h, r_lenVa, if_pos ⟨by omega, by omega⟩]
theorem shown_ok {late pl : Int} {last : D} {rows : List Int} (hl : rows.length < 1000) : v_shown [some (.own true (storeD late rows last pl))] = .ok (.v (.tup [.int late, .tup (rows.map .int), last, .int pl, .int rows.length])) [some (.own true (storeD late rows last pl))] := by
  have e := len_ok (late := late) (pl := pl) (last := last) (rows := rows)
  have q : (rows.length : Int) < 9223372036854775808 := by omega
  unfold v_shown f_shown_0
  unfold storeD at *
  simp (config := {decide := true}) [-List.map_map, U.escA_vs, U.escA_v0, U.gInt, U.gLen, U.gAbs, U.gList, U.gTuple, U.gSub, U.gAdd, U.gAddI, U.gAddN, U.gNeg, U.gLt, U.gLe, U.gGt, U.gGe, U.gIsN, U.isNon, U.gIdx, U.gMod, U.gDiv, U.lmAppend, U.lmExtend, U.lmReverse, U.truD, U.seqD, U.tagOf, U.clsOf, U.isTab, U.gIsi, U.isBox, U.isBo, U.lkB, L2.atI, L2.ixN, e, q]
/-! ### the steps -/
/-- what a step tells, and behind it the store: (told, rows, last, places) -/
def step (late : Int) (rows : List Int) (last : Option Int) (pl n : Int) : D × List Int × Option Int × Int :=
  match last with
  | some l => if n < l then (.tup [.str "unfit", .int pl], rows, some l, pl) else fit (some l)
  | none => fit none
where fit (last : Option Int) : D × List Int × Option Int × Int :=
  if (rows.length : Int) + 1 ≤ late then (.tup [.str "put", .non], srt (rows ++ [n]), last, pl + 1)
  else match srt (rows ++ [n]) with
    | a :: t => (.tup [.str "put", .int a], t, some a, pl + 1)
    | [] => (.non, [], none, 0)
theorem lput_step {late pl n : Int} {last : Option Int} {rows : List Int} {p : Bool} (h1 : 0 ≤ n) (h2 : n < 10 ^ 60) (hl : rows.length < 1000) :
    v_put [some (.own true (storeD late rows (lastD last) pl)), some (.val p (.int n))] = .ok (.v (step late rows last pl n).1) [some (.own true (storeD late (step late rows last pl n).2.1 (lastD (step late rows last pl n).2.2.1) (step late rows last pl n).2.2.2)), none] := by
  have fit : ∀ last : Option Int, (∀ l, last = some l → ¬ n < l) → v_put [some (.own true (storeD late rows (lastD last) pl)), some (.val p (.int n))] = .ok (.v (step.fit late rows pl n last).1) [some (.own true (storeD late (step.fit late rows pl n last).2.1 (lastD (step.fit late rows pl n last).2.2.1) (step.fit late rows pl n last).2.2.2)), none] := by
    intro last h
    unfold step.fit
    by_cases hk : (rows.length : Int) + 1 ≤ late
    · rw [if_pos hk]
      exact lput_ok (put_keep h1 h2 h hl hk)
    · rw [if_neg hk]
      cases hR : srt (rows ++ [n]) with
      | nil => have := srt_len (ns := rows ++ [n]); rw [hR] at this; simp at this
      | cons a t => exact lput_ok (put_out h1 h2 h hl hk hR)
  unfold step
  cases last with
  | none => exact fit none fun l z => by cases z
  | some l =>
    dsimp only
    by_cases h : n < l
    · rw [if_pos h]
      exact lput_unfit h1 h2 h
    · rw [if_neg h]
      exact fit (some l) fun l' z => by cases z; exact h

end Lk60
end part_Q3

section part_Q4
set_option Elab.async false
set_option linter.all false
set_option maxRecDepth 100000
set_option maxHeartbeats 1000000
namespace Lk60
open PySem U
def numOk (n : Int) : Prop := 0 ≤ n ∧ n < 10 ^ 60
theorem numOk.abs {n : Int} (h : numOk n) : n.natAbs < 2 ^ 1900 := by
  have : n.natAbs < 2 ^ 200 := by obtain ⟨a, b⟩ := h; omega
  exact Nat.lt_of_lt_of_le this (Nat.pow_le_pow_right (by decide) (by decide))
theorem small_abs {n : Int} (h : 0 ≤ n) (h2 : n < 1000) : n.natAbs < 2 ^ 1900 := by
  have : n.natAbs < 2 ^ 200 := by omega
  exact Nat.lt_of_lt_of_le this (Nat.pow_le_pow_right (by decide) (by decide))
structure StOk (late : Int) (rows : List Int) (last : Option Int) (pl : Int) : Prop where
  late0 : 0 ≤ late
  late1 : late < 21
  rk : ∀ m ∈ rows, numOk m
  len : rows.length < 100
  lk : ∀ l, last = some l → numOk l
  pl0 : 0 ≤ pl
  pl1 : pl < 100
def seenD (late : Int) (rows : List Int) (last : Option Int) (pl : Int) : D := .tup [.int late, .tup (rows.map .int), lastD last, .int pl, .int rows.length]
theorem repr_seen {late pl : Int} {rows : List Int} {last : Option Int} (h : StOk late rows last pl) : gRepr [seenD late rows last pl] = some (.v (.str (shownD (seenD late rows last pl)))) := by
  have a1 := okR_int (small_abs h.late0 (by have := h.late1; omega))
  have a2 := okR_ints (fun m hm => (h.rk m hm).abs)
  have a3 := okR_int (small_abs h.pl0 (by have := h.pl1; omega))
  have a4 := okR_int (small_abs (n := (rows.length : Int)) (by omega) (by have := h.len; omega))
  have hl := h.len
  refine repr_ok ?_ ?_ ?_ ?_
  · cases last <;> simp [seenD, lastD, py, pyL, pyL_ints]
  · cases last with
    | none => simp [seenD, lastD, okRL, okR] at *; simp [*]
    | some l =>
      have a5 := okR_int (h.lk l rfl).abs
      simp [seenD, lastD, okRL, okR] at *; simp [*]
  · cases last <;> (simp [seenD, lastD, rsz, rszL, rsz_ints, big]; omega)
  · cases last <;> simp [seenD, lastD, dpt, dptL, dpt_ints]
theorem repr_two {w : Str} {d : D} (hw : okR (.str w) = true) (hw2 : w.length < 100) (h : d = .non ∨ ∃ n, d = .int n ∧ n.natAbs < 2 ^ 1900) : gRepr [.tup [.str w, d]] = some (.v (.str (shownD (.tup [.str w, d])))) := by
  refine repr_ok ?_ ?_ ?_ ?_
  · rcases h with rfl | ⟨n, rfl, h⟩ <;> simp [py, pyL]
  · rcases h with rfl | ⟨n, rfl, h⟩
    · simp [okRL, okR] at *; simp [*]
    · have := okR_int h
      simp [okRL, okR] at *; simp [*]
  · rcases h with rfl | ⟨n, rfl, h⟩ <;> (simp [rsz, rszL, big]; omega)
  · rcases h with rfl | ⟨n, rfl, h⟩ <;> simp [dpt, dptL]
theorem srt_mem {ns : List Int} {m : Int} : m ∈ srt ns ↔ m ∈ ns := by unfold srt; exact (List.mergeSort_perm ns _).mem_iff
theorem ok_told {late pl n : Int} {last : Option Int} {rows : List Int} (h : StOk late rows last pl) (hn : numOk n) (hp : pl < 99) (hr : rows.length < 99) : StOk late (step late rows last pl n).2.1 (step late rows last pl n).2.2.1 (step late rows last pl n).2.2.2 ∧ (step late rows last pl n).2.1.length ≤ rows.length + 1 ∧ (step late rows last pl n).2.2.2 ≤ pl + 1 := by
  have fit : ∀ last : Option Int, (∀ l, last = some l → numOk l) → StOk late (step.fit late rows pl n last).2.1 (step.fit late rows pl n last).2.2.1 (step.fit late rows pl n last).2.2.2 ∧ (step.fit late rows pl n last).2.1.length ≤ rows.length + 1 ∧ (step.fit late rows pl n last).2.2.2 ≤ pl + 1 := by
    intro last hk
    have mem : ∀ m ∈ srt (rows ++ [n]), numOk m := fun m hm => by
      rcases List.mem_append.mp (srt_mem.mp hm) with z | z
      · exact h.rk m z
      · rw [List.mem_singleton.mp z]; exact hn
    have len : (srt (rows ++ [n])).length = rows.length + 1 := by rw [srt_len]; simp
    have p0 := h.pl0
    unfold step.fit
    split
    · exact ⟨⟨h.late0, h.late1, mem, by show (srt (rows ++ [n])).length < 100; omega, hk, by show 0 ≤ pl + 1; omega, by show pl + 1 < 100; omega⟩, by show (srt (rows ++ [n])).length ≤ _; omega, by show pl + 1 ≤ _; omega⟩
    · cases hR : srt (rows ++ [n]) with
      | nil => rw [hR] at len; simp at len
      | cons a t =>
        rw [hR] at mem len
        simp at len
        exact ⟨⟨h.late0, h.late1, fun m hm => mem m (List.mem_cons_of_mem _ hm), by show t.length < 100; omega, fun l z => by cases z; exact mem _ List.mem_cons_self, by show 0 ≤ pl + 1; omega, by show pl + 1 < 100; omega⟩, by show t.length ≤ _; omega, by show pl + 1 ≤ _; omega⟩
  unfold step
  cases last with
  | none => exact fit none fun l z => by cases z
  | some l =>
    dsimp only
    split
    · exact ⟨h, by show rows.length ≤ _; omega, by show pl ≤ _; omega⟩
    · exact fit (some l) h.lk

end Lk60
end part_Q4

section part_Q5
set_option Elab.async false
set_option linter.all false
set_option maxRecDepth 100000
set_option maxHeartbeats 1000000
namespace Lk60
open PySem U
theorem slot_nx {s : Option Sl} : k_fs (some s) = true → s = none ∨ (∃ d, s = some (.val false d)) ∨ ∃ d, s = some (.own false d) := by
  intro h
  rcases s with _ | s
  · exact .inl rfl
  · cases s with
    | val p d => cases p <;> simp [k_fs] at h; exact .inr (.inl ⟨d, rfl⟩)
    | own p d => cases p <;> simp [k_fs] at h; exact .inr (.inr ⟨d, rfl⟩)
    | lent p d => simp [k_fs] at h
    | exc => simp [k_fs] at h
/-- the end of a turn: what is shown -/
theorem turn_end {late pl : Int} {last : Option Int} {rows : List Int} (h : StOk late rows last pl) {x : D} {N t7 t8 t9 t10 : Option Sl} :
    l_steps_right_95_2 [some (.own true x), some (.val false (.int late)), N, some (.own false (storeD late rows (lastD last) pl)), some (.own false (.lst (rows.map .int))), some (.val false (lastD last)), some (.val false (.int pl)), t7, t8, t9, t10] =
      .nx [some (.own true x), some (.val false (.int late)), N, some (.own false (storeD late rows (lastD last) pl)), some (.own false (.lst (rows.map .int))), some (.val false (lastD last)), some (.val false (.int pl)), t7, t8, t9, t10] := by
  have e := shown_ok (late := late) (pl := pl) (last := lastD last) (rows := rows) (by have := h.len; omega)
  have q := repr_seen h
  unfold seenD at q
  generalize hS : storeD late rows (lastD last) pl = S at *
  unfold l_steps_right_95_2
  simp (config := {decide := true}) [-List.map_map, U.escA_vs, U.escA_v0, U.gInt, U.gLen, U.gAbs, U.gList, U.gTuple, U.gSub, U.gAdd, U.gAddI, U.gAddN, U.gNeg, U.gLt, U.gLe, U.gGt, U.gGe, U.gIsN, U.isNon, U.gIdx, U.gMod, U.gDiv, U.lmAppend, U.lmExtend, U.lmReverse, U.truD, U.seqD, U.tagOf, U.clsOf, U.isTab, U.gIsi, U.isBox, U.isBo, U.lkB, L2.atI, L2.ixN, e, q, eq_strs]
theorem turn_ok {late pl n : Int} {last : Option Int} {rows : List Int} (h : StOk late rows last pl) (hn : numOk n) (hp : pl < 99) (hr : rows.length < 99) {x : D} {N t8 t9 t10 : Option Sl} (h8 : k_fs (some t8) = true) (h9 : k_fs (some t9) = true) : ∃ u8 u9, k_fs (some u8) = true ∧ k_fs (some u9) = true ∧
    l_steps_right_95_0 [some (.own true x), some (.val false (.int late)), N, some (.own false (storeD late rows (lastD last) pl)), some (.own false (.lst (rows.map .int))), some (.val false (lastD last)), some (.val false (.int pl)), some (.val false (.int n)), t8, t9, t10] =
      .nx [some (.own true x), some (.val false (.int late)), N, some (.own false (storeD late (step late rows last pl n).2.1 (lastD (step late rows last pl n).2.2.1) (step late rows last pl n).2.2.2)), some (.own false (.lst ((step late rows last pl n).2.1.map .int))), some (.val false (lastD (step late rows last pl n).2.2.1)), some (.val false (.int (step late rows last pl n).2.2.2)), some (.val false (.int n)), u8, u9, t10] := by
  have e := lput_step (late := late) (pl := pl) (n := n) (last := last) (rows := rows) (p := false) hn.1 hn.2 (by omega)
  have ok := (ok_told h hn hp hr).1
  have q1 : gRepr [.tup [.str "unfit", .int pl]] = some (.v (.str (shownD (.tup [.str "unfit", .int pl])))) := repr_two (by decide +kernel) (by decide) (.inr ⟨_, rfl, small_abs h.pl0 (by omega)⟩)
  have q2 : gRepr [.tup [.str "put", .non]] = some (.v (.str (shownD (.tup [.str "put", .non])))) := repr_two (by decide +kernel) (by decide) (.inl rfl)
  have q3 : ∀ a, numOk a → gRepr [.tup [.str "put", .int a]] = some (.v (.str (shownD (.tup [.str "put", .int a])))) := fun a ha => repr_two (by decide +kernel) (by decide) (.inr ⟨_, rfl, ha.abs⟩)
  have hb : rows.length + 1 ≤ big := by show _ ≤ 1000000; omega
  have s := sorted_ints (ns := rows ++ [n])
  have sl : (srt (rows ++ [n])).length = rows.length + 1 := by rw [srt_len]; simp
  have smem : ∀ m ∈ srt (rows ++ [n]), numOk m := fun m hm => by
    rcases List.mem_append.mp (srt_mem.mp hm) with z | z
    · exact h.rk m z
    · rw [List.mem_singleton.mp z]; exact hn
  simp only [List.map_append, List.map_cons, List.map_nil] at s
  -- a number that comes too late
  by_cases hu : ∃ l, last = some l ∧ n < l
  · obtain ⟨l, rfl, hl⟩ := hu
    have st : step late rows (some l) pl n = (.tup [.str "unfit", .int pl], rows, some l, pl) := by unfold step; dsimp only; rw [if_pos hl]
    rw [st] at e ok ⊢
    dsimp only at e ok ⊢
    have t := turn_end ok (x := x) (N := N) (t7 := some (.val false (.int n))) (t8 := some (.val false (.tup [.str "unfit", .int pl]))) (t9 := t9) (t10 := t10)
    refine ⟨some (.val false (.tup [.str "unfit", .int pl])), t9, rfl, h9, ?_⟩
    unfold l_steps_right_95_0 l_steps_right_95_1
    generalize hS : storeD late rows (lastD (some l)) pl = S at *
    unfold lastD at *
    simp (config := {decide := true}) [-List.map_map, U.escA_vs, U.escA_v0, U.gInt, U.gLen, U.gAbs, U.gList, U.gTuple, U.gSub, U.gAdd, U.gAddI, U.gAddN, U.gNeg, U.gLt, U.gLe, U.gGt, U.gGe, U.gIsN, U.isNon, U.gIdx, U.gMod, U.gDiv, U.lmAppend, U.lmExtend, U.lmReverse, U.truD, U.seqD, U.tagOf, U.clsOf, U.isTab, U.gIsi, U.isBox, U.isBo, U.lkB, L2.atI, L2.ixN, e, h8, hl, q1, eq_strs, t]
  · have st : step late rows last pl n = step.fit late rows pl n last := by
      unfold step
      cases last with
      | none => rfl
      | some l => dsimp only; rw [if_neg fun z => hu ⟨l, rfl, z⟩]
    rw [st] at e ok ⊢
    unfold step.fit at e ok ⊢
    by_cases hk : (rows.length : Int) + 1 ≤ late
    · rw [if_pos hk] at e ok ⊢
      dsimp only at e ok ⊢
      have t := turn_end ok (x := x) (N := N) (t7 := some (.val false (.int n))) (t8 := some (.val false (.tup [.str "put", .non]))) (t9 := some (.val false .non)) (t10 := t10)
      refine ⟨some (.val false (.tup [.str "put", .non])), some (.val false .non), rfl, rfl, ?_⟩
      unfold l_steps_right_95_0 l_steps_right_95_1
      generalize hS : storeD late rows (lastD last) pl = S at *
      generalize hS2 : storeD late (srt (rows ++ [n])) (lastD last) (pl + 1) = S2 at *
      have hk2 : ¬ late < (rows.length : Int) + 1 := by omega
      cases last with
      | none => unfold lastD at *; simp (config := {decide := true}) [-List.map_map, U.escA_vs, U.escA_v0, U.gInt, U.gLen, U.gAbs, U.gList, U.gTuple, U.gSub, U.gAdd, U.gAddI, U.gAddN, U.gNeg, U.gLt, U.gLe, U.gGt, U.gGe, U.gIsN, U.isNon, U.gIdx, U.gMod, U.gDiv, U.lmAppend, U.lmExtend, U.lmReverse, U.truD, U.seqD, U.tagOf, U.clsOf, U.isTab, U.gIsi, U.isBox, U.isBo, U.lkB, L2.atI, L2.ixN, e, h8, h9, hb, s, sl, hk2, q2, eq_strs, t]
      | some l => have hnl : ¬ n < l := fun z => hu ⟨l, rfl, z⟩; unfold lastD at *; simp (config := {decide := true}) [-List.map_map, U.escA_vs, U.escA_v0, U.gInt, U.gLen, U.gAbs, U.gList, U.gTuple, U.gSub, U.gAdd, U.gAddI, U.gAddN, U.gNeg, U.gLt, U.gLe, U.gGt, U.gGe, U.gIsN, U.isNon, U.gIdx, U.gMod, U.gDiv, U.lmAppend, U.lmExtend, U.lmReverse, U.truD, U.seqD, U.tagOf, U.clsOf, U.isTab, U.gIsi, U.isBox, U.isBo, U.lkB, L2.atI, L2.ixN, e, h8, h9, hb, s, sl, hk2, hnl, q2, eq_strs, t]
    · rw [if_neg hk] at e ok ⊢
      cases hR : srt (rows ++ [n]) with
      | nil => rw [hR] at sl; simp at sl
      | cons a tl =>
        rw [hR] at e ok s sl smem
        dsimp only at e ok ⊢
        have q4 := q3 a (smem a List.mem_cons_self)
        have hk2 : late < (rows.length : Int) + 1 := by omega
        have sl2 : tl.length = rows.length := by simpa using sl
        have t := turn_end ok (x := x) (N := N) (t7 := some (.val false (.int n))) (t8 := some (.val false (.tup [.str "put", .int a]))) (t9 := some (.val false (.int a))) (t10 := t10)
        refine ⟨some (.val false (.tup [.str "put", .int a])), some (.val false (.int a)), rfl, rfl, ?_⟩
        unfold l_steps_right_95_0 l_steps_right_95_1
        generalize hS : storeD late rows (lastD last) pl = S at *
        generalize hS2 : storeD late tl (lastD (some a)) (pl + 1) = S2 at *
        have ct : List.take rows.length (List.map D.int tl) = List.map D.int tl := List.take_of_length_le (by simp [sl2])
        cases last with
        | none => unfold lastD at *; simp (config := {decide := true}) [-List.map_map, U.escA_vs, U.escA_v0, U.gInt, U.gLen, U.gAbs, U.gList, U.gTuple, U.gSub, U.gAdd, U.gAddI, U.gAddN, U.gNeg, U.gLt, U.gLe, U.gGt, U.gGe, U.gIsN, U.isNon, U.gIdx, U.gMod, U.gDiv, U.lmAppend, U.lmExtend, U.lmReverse, U.truD, U.seqD, U.tagOf, U.clsOf, U.isTab, U.gIsi, U.isBox, U.isBo, U.lkB, L2.atI, L2.ixN, e, h8, h9, hb, s, sl2, hk2, q4, eq_strs, gSl, cutD, HT.sIx, ct, t]
        | some l => have hnl : ¬ n < l := fun z => hu ⟨l, rfl, z⟩; unfold lastD at *; simp (config := {decide := true}) [-List.map_map, U.escA_vs, U.escA_v0, U.gInt, U.gLen, U.gAbs, U.gList, U.gTuple, U.gSub, U.gAdd, U.gAddI, U.gAddN, U.gNeg, U.gLt, U.gLe, U.gGt, U.gGe, U.gIsN, U.isNon, U.gIdx, U.gMod, U.gDiv, U.lmAppend, U.lmExtend, U.lmReverse, U.truD, U.seqD, U.tagOf, U.clsOf, U.isTab, U.gIsi, U.isBox, U.isBo, U.lkB, L2.atI, L2.ixN, e, h8, h9, hb, s, sl2, hk2, hnl, q4, eq_strs, gSl, cutD, HT.sIx, ct, t]

end Lk60
end part_Q5

section part_Q6
set_option Elab.async false
set_option linter.all false
set_option maxRecDepth 100000
set_option maxHeartbeats 1000000
namespace Lk60
open PySem U
theorem turns_ok {late : Int} {x : D} {N t10 : Option Sl} : ∀ (ns : List Int) {rows : List Int} {last : Option Int} {pl : Int} {t7 t8 t9 : Option Sl}, (∀ n ∈ ns, numOk n) → StOk late rows last pl → rows.length + ns.length < 99 → pl + ns.length < 99 → k_fs (some t7) = true → k_fs (some t8) = true → k_fs (some t9) = true →
    ∃ rows' last' pl' u7 u8 u9, StOk late rows' last' pl' ∧ k_fs (some u8) = true ∧ loopL (gOne 7) l_steps_right_95_0 (ns.map .int) [some (.own true x), some (.val false (.int late)), N, some (.own false (storeD late rows (lastD last) pl)), some (.own false (.lst (rows.map .int))), some (.val false (lastD last)), some (.val false (.int pl)), t7, t8, t9, t10] =
      .nx [some (.own true x), some (.val false (.int late)), N, some (.own false (storeD late rows' (lastD last') pl')), some (.own false (.lst (rows'.map .int))), some (.val false (lastD last')), some (.val false (.int pl')), u7, u8, u9, t10]
  | [], rows, last, pl, t7, t8, t9, _, h, _, _, _, h8, _ => ⟨rows, last, pl, t7, t8, t9, h, h8, loop_nil⟩
  | n :: ns, rows, last, pl, t7, t8, t9, hn, h, h1, h2, h7, h8, h9 => by
    simp only [List.length_cons] at h1 h2
    obtain ⟨u8, u9, k8, k9, e⟩ := turn_ok h (hn n List.mem_cons_self) (by omega) (by omega) (x := x) (N := N) (t8 := t8) (t9 := t9) (t10 := t10) h8 h9
    obtain ⟨ok, l1, l2⟩ := ok_told h (hn n List.mem_cons_self) (by omega) (by omega)
    obtain ⟨rows', last', pl', v7, v8, v9, ok', q8, e'⟩ := turns_ok (late := late) (x := x) (N := N) (t10 := t10) ns (t7 := some (.val false (.int n))) (fun m hm => hn m (List.mem_cons_of_mem _ hm)) ok (by omega) (by omega) rfl k8 k9
    refine ⟨rows', last', pl', v7, v8, v9, ok', q8, ?_⟩
    rw [← e', List.map_cons, loop_cons]
    generalize storeD late rows (lastD last) pl = S at *
    generalize D.lst (List.map D.int rows) = R at *
    generalize lastD last = L at *
    simp (config := {decide := true}) [-List.map_map, U.escA_vs, U.escA_v0, U.gInt, U.gLen, U.gAbs, U.gList, U.gTuple, U.gSub, U.gAdd, U.gAddI, U.gAddN, U.gNeg, U.gLt, U.gLe, U.gGt, U.gGe, U.gIsN, U.isNon, U.gIdx, U.gMod, U.gDiv, U.lmAppend, U.lmExtend, U.lmReverse, U.truD, U.seqD, U.tagOf, U.clsOf, U.isTab, U.gIsi, U.isBox, U.isBo, U.lkB, L2.atI, L2.ixN, h7, e]
theorem steps_ok {late : Int} {ns : List Int} {x : D} {k : Nat} (hp : PenOk x k) (hk : k < 1000000) (h0 : 0 ≤ late) (h1 : late < 21) (hn : ∀ n ∈ ns, numOk n) (hl : ns.length < 60) : ∃ x', PenOk x' (k + 1) ∧
    v_steps_right [some (.own true x), some (.val false (.int late)), some (.own true (.lst (ns.map .int)))] = .ok (.v (.bl true)) [some (.own true x'), none, some (.own true (.lst (ns.map .int)))] := by
  have st0 : StOk late [] none 0 := ⟨h0, h1, (fun m hm => nomatch hm), by decide, (fun l z => nomatch z), by decide, by decide⟩
  have i := init_ok (p := false) h0 h1
  obtain ⟨rows, last, pl, u7, u8, u9, ok, k8, e⟩ := turns_ok (x := x) (N := some (.lent true (.lst (ns.map .int)))) (t10 := none) ns (t7 := none) (t8 := none) (t9 := none) hn st0 (by show 0 + _ < 99; omega) (by omega) rfl rfl rfl
  obtain ⟨d, x', hd, ep, ok'⟩ := pick_s (p := false) (xs := [.non, .bl true, .int (-1), .int 1000000000000000000000000000000000000000000000000000000000000, .str "7", .tup [.int 3], .lst [.int 3]]) hp hk (by simp) (by simp)
  have hod : odd d = true ∨ ∃ i, d = .int i ∧ ¬ (0 ≤ i ∧ i < 10 ^ 60) := by
    simp at hd
    rcases hd with rfl | rfl | rfl | rfl | rfl | rfl | rfl
    · exact .inl rfl
    · exact .inl rfl
    · exact .inr ⟨_, rfl, by decide⟩
    · exact .inr ⟨_, rfl, by decide⟩
    · exact .inl rfl
    · exact .inl rfl
    · exact .inl rfl
  have eb := lput_bad (p := false) (S := storeD late rows (lastD last) pl) rfl hod
  have es := shown_ok (late := late) (pl := pl) (last := lastD last) (rows := rows) (by have := ok.len; omega)
  have q := repr_seen ok
  unfold seenD at q
  have pw : gPow (.int 10) (.int 60) = some (.v (.int (10 ^ 60))) := pow_ok (n := 60) (by decide) (by decide)
  have ec : gEq false (.tup [.str "bad", .str "number"]) (.tup [.str "bad", .str "number"]) = some (.v (.bl true)) := by ((simp (config := {decide := true}) [U.gEq, U.gEqS, U.gEqD, U.py, U.pyL, SeqAt.shaped, PyData.canLay0, PyData.canLayAll0, PyData.depth, PyData.depthAll, PyData.eqv, PyData.eqvAll] <;> decide +kernel))
  refine ⟨x', ok', ?_⟩
  unfold v_steps_right f_steps_right_0 f_steps_right_1 f_steps_right_2 f_steps_right_3 f_steps_right_4
  have hst : storeD late [] (lastD none) 0 = storeD late [] .non 0 := rfl
  rw [hst] at e
  simp only [show lastD none = D.non from rfl] at e
  generalize hS0 : storeD late [] .non 0 = S0 at *
  generalize hS : storeD late rows (lastD last) pl = S at *
  simp only [List.map_nil] at e
  simp (config := {decide := true}) [-List.map_map, U.escA_vs, U.escA_v0, U.gInt, U.gLen, U.gAbs, U.gList, U.gTuple, U.gSub, U.gAdd, U.gAddI, U.gAddN, U.gNeg, U.gLt, U.gLe, U.gGt, U.gGe, U.gIsN, U.isNon, U.gIdx, U.gMod, U.gDiv, U.lmAppend, U.lmExtend, U.lmReverse, U.truD, U.seqD, U.tagOf, U.clsOf, U.isTab, U.gIsi, U.isBox, U.isBo, U.lkB, L2.atI, L2.ixN, i, e, pw, ep, eb, ec, es, q, k8, eq_strs]

end Lk60
end part_Q6

section part_Q7
set_option Elab.async false
set_option linter.all false
set_option maxRecDepth 100000
set_option maxHeartbeats 1000000
namespace Lk60
open PySem U
theorem made_ok {x : D} {k : Nat} (hp : PenOk x k) (hk : k < 1000000) : ∃ x', PenOk x' (k + 1) ∧ v_made_right [some (.own true x)] = .ok (.v (.bl true)) [some (.own true x')] := by
  obtain ⟨d, x', hd, ep, ok'⟩ := pick_s (p := false) (xs := [.int (-1), .int 21, .bl true, .non, .str "1", .tup [.int 0]]) hp hk (by simp) (by simp)
  have hod : odd d = true ∨ ∃ i, d = .int i ∧ ¬ (0 ≤ i ∧ i < 21) := by
    simp at hd
    rcases hd with rfl | rfl | rfl | rfl | rfl | rfl
    · exact .inr ⟨_, rfl, by decide⟩
    · exact .inr ⟨_, rfl, by decide⟩
    · exact .inl rfl
    · exact .inl rfl
    · exact .inl rfl
    · exact .inl rfl
  have e := init_bad (p := false) hod
  unfold badD at e
  have ec : gEq false (.tup [.bl true, .str "late"]) (.tup [.bl true, .str "late"]) = some (.v (.bl true)) := by ((simp (config := {decide := true}) [U.gEq, U.gEqS, U.gEqD, U.py, U.pyL, SeqAt.shaped, PyData.canLay0, PyData.canLayAll0, PyData.depth, PyData.depthAll, PyData.eqv, PyData.eqvAll] <;> decide +kernel))
  refine ⟨x', ok', ?_⟩
  unfold v_made_right f_made_right_0 f_made_right_1 f_made_right_2
  simp (config := {decide := true}) [-List.map_map, U.escA_vs, U.escA_v0, U.gInt, U.gLen, U.gAbs, U.gList, U.gTuple, U.gSub, U.gAdd, U.gAddI, U.gAddN, U.gNeg, U.gLt, U.gLe, U.gGt, U.gGe, U.gIsN, U.isNon, U.gIdx, U.gMod, U.gDiv, U.lmAppend, U.lmExtend, U.lmReverse, U.truD, U.seqD, U.tagOf, U.clsOf, U.isTab, U.gIsi, U.isBox, U.isBo, U.lkB, L2.atI, L2.ixN, ep, e, ec]

end Lk60
end part_Q7

section part_Q8
set_option Elab.async false
set_option linter.all false
set_option maxRecDepth 100000
set_option maxHeartbeats 1000000
namespace Lk60
open PySem U
/-- p numbers are chosen -/
structure OrdOk (e L : Int) (left rows : List Int) (p : Nat) : Prop where
  asc : left.Pairwise (· < ·)
  rng : ∀ x ∈ left, 0 ≤ x ∧ x < 20 + e
  len : (left.length : Int) = 20 + e - p
  rlen : rows.length = p
  rnd : rows.Nodup
  dis : ∀ x ∈ rows, x ∉ left
  pos : ∀ x ∈ rows, 0 ≤ x ∧ x < 30
  due : ∀ r : Int, 0 ≤ r → r + L < p → r ∈ rows.take (r + L + 1).toNat
  all : ∀ r : Int, 0 ≤ r → r < 20 + e → r ∈ rows ∨ r ∈ left
/-- open ones -/
def openN (left : List Int) (b : Int) : List Int := left.filter fun x => decide (x ≤ b)
theorem comp_open {ρ0 ρ2 ρ3 ρ5 ρ7 ρ8 : Option Sl} {pl e : Int} {lft : D} : ∀ (xs acc : List Int), acc.length + xs.length < 1000 →
    compL [9] (gOne 9) (tVal (eOp2 gLe (eVar 9) (eOp2 gAdd (eVar 6) (eVar 1)))) c_order_74_29 (xs.map .int) (acc.map .int) [ρ0, some (.val false (.int e)), ρ2, ρ3, some (.lent false lft), ρ5, some (.val false (.int pl)), ρ7, ρ8, none] =
      .ok ((acc ++ openN xs (pl + e)).map .int) [ρ0, some (.val false (.int e)), ρ2, ρ3, some (.lent false lft), ρ5, some (.val false (.int pl)), ρ7, ρ8, none]
  | [], acc, _ => by rw [List.map_nil, comp_nil]; simp [openN]
  | x :: xs, acc, h => by
    simp only [List.length_cons] at h
    have hb : acc.length < big := by show _ < 1000000; omega
    rw [List.map_cons, comp_cons]
    by_cases hx : x ≤ pl + e
    · have ih := comp_open (ρ0 := ρ0) (ρ2 := ρ2) (ρ3 := ρ3) (ρ5 := ρ5) (ρ7 := ρ7) (ρ8 := ρ8) (pl := pl) (e := e) (lft := lft) xs (acc ++ [x]) (by simp; omega)
      have eo : openN (x :: xs) (pl + e) = x :: openN xs (pl + e) := by unfold openN; rw [List.filter_cons_of_pos (by simpa using hx)]
      rw [eo]
      simp only [List.map_append, List.map_cons, List.map_nil, List.append_assoc, List.singleton_append] at ih ⊢
      rw [← ih]
      unfold c_order_74_29
      simp (config := {decide := true}) [-List.map_map, U.escA_vs, U.escA_v0, U.gInt, U.gLen, U.gAbs, U.gList, U.gTuple, U.gSub, U.gAdd, U.gAddI, U.gAddN, U.gNeg, U.gLt, U.gLe, U.gGt, U.gGe, U.gIsN, U.isNon, U.gIdx, U.gMod, U.gDiv, U.lmAppend, U.lmExtend, U.lmReverse, U.truD, U.seqD, U.tagOf, U.clsOf, U.isTab, U.gIsi, U.isBox, U.isBo, U.lkB, L2.atI, L2.ixN, hx, hb]
    · have ih := comp_open (ρ0 := ρ0) (ρ2 := ρ2) (ρ3 := ρ3) (ρ5 := ρ5) (ρ7 := ρ7) (ρ8 := ρ8) (pl := pl) (e := e) (lft := lft) xs acc (by omega)
      have eo : openN (x :: xs) (pl + e) = openN xs (pl + e) := by unfold openN; rw [List.filter_cons_of_neg (by simpa using hx)]
      rw [eo, ← ih]
      simp (config := {decide := true}) [-List.map_map, U.escA_vs, U.escA_v0, U.gInt, U.gLen, U.gAbs, U.gList, U.gTuple, U.gSub, U.gAdd, U.gAddI, U.gAddN, U.gNeg, U.gLt, U.gLe, U.gGt, U.gGe, U.gIsN, U.isNon, U.gIdx, U.gMod, U.gDiv, U.lmAppend, U.lmExtend, U.lmReverse, U.truD, U.seqD, U.tagOf, U.clsOf, U.isTab, U.gIsi, U.isBox, U.isBo, U.lkB, L2.atI, L2.ixN, hx]

end Lk60
end part_Q8

section part_Q9
set_option Elab.async false
set_option linter.all false
set_option maxRecDepth 100000
set_option maxHeartbeats 1000000
namespace Lk60
open PySem U
theorem cut_at {left : List Int} {j : Nat} (hj : j < left.length) : left = left.take j ++ left[j] :: left.drop (j + 1) := by
  rw [← List.drop_eq_getElem_cons hj, List.take_append_drop]
theorem ord_step {e L : Int} {left rows : List Int} {p j : Nat} (h : OrdOk e L left rows p) (hL : 0 ≤ L) (he : e ≤ 4) (hj : j < left.length) (h0 : left[0] ≤ p - L → j = 0) : OrdOk e L (left.eraseIdx j) (rows ++ [left[j]]) (p + 1) := by
  have hcut := cut_at hj
  have hE : left.eraseIdx j = left.take j ++ left.drop (j + 1) := List.eraseIdx_eq_take_drop_succ left j
  have hv : left[j] ∈ left := List.getElem_mem hj
  have sub : ∀ x ∈ left.eraseIdx j, x ∈ left := fun x hx => List.mem_of_mem_eraseIdx hx
  have nv : left[j] ∉ left.eraseIdx j := by
    have asc := h.asc
    rw [hcut] at asc
    obtain ⟨_, a2, a3⟩ := List.pairwise_append.mp asc
    rw [hE]
    intro z
    rcases List.mem_append.mp z with z | z
    · exact absurd (a3 _ z _ List.mem_cons_self) (by omega)
    · exact absurd ((List.pairwise_cons.mp a2).1 _ z) (by omega)
  have mem : ∀ r, r ∈ left → r = left[j] ∨ r ∈ left.eraseIdx j := fun r hr => by
    rw [hcut] at hr
    rw [hE]
    rcases List.mem_append.mp hr with z | z
    · exact .inr (List.mem_append_left _ z)
    · rcases List.mem_cons.mp z with z | z
      · exact .inl z
      · exact .inr (List.mem_append_right _ z)
  refine ⟨h.asc.sublist (List.eraseIdx_sublist left j), fun x hx => h.rng x (sub x hx), ?_, by simp [h.rlen], ?_, ?_, ?_, ?_, ?_⟩
  · have := List.length_eraseIdx_of_lt hj
    have := h.len
    omega
  · refine List.nodup_append.mpr ⟨h.rnd, by simp, fun a ha b hb z => ?_⟩
    rw [List.mem_singleton.mp hb] at z
    exact h.dis a ha (z ▸ hv)
  · intro x hx z
    rcases List.mem_append.mp hx with hx | hx
    · exact h.dis x hx (sub x z)
    · rw [List.mem_singleton.mp hx] at z
      exact nv z
  · intro x hx
    rcases List.mem_append.mp hx with hx | hx
    · exact h.pos x hx
    · rw [List.mem_singleton.mp hx]
      have := h.rng _ hv
      omega
  · intro r hr hrL
    by_cases hq : r + L < p
    · have := h.due r hr hq
      rw [List.take_append_of_le_length (by rw [h.rlen]; omega)]
      exact this
    · have hp : (r + L + 1).toNat = p + 1 := by omega
      rw [hp, List.take_of_length_le (by simp [h.rlen])]
      have hlen : 0 < left.length := by omega
      by_cases hin : r ∈ left
      · have hl0 : left[0] ∈ left := List.getElem_mem hlen
        have hle : left[0] ≤ r := by
          have asc := h.asc
          have c0 := cut_at hlen
          rw [c0] at asc hin
          simp at asc hin
          rcases hin with z | z
          · omega
          · have := asc.1 _ z
            omega
        have hge : ¬ left[0] < r := fun z => h.dis _ (List.mem_of_mem_take (h.due left[0] (h.rng _ hl0).1 (by omega))) hl0
        have e0 : left[0] = r := by omega
        have j0 := h0 (by omega)
        subst j0
        rw [← e0]
        exact List.mem_append_right _ List.mem_cons_self
      · by_cases hr2 : r < 20 + e
        · rcases h.all r hr hr2 with z | z
          · exact List.mem_append_left _ z
          · exact absurd z hin
        · exfalso
          have := h.len
          omega
  · intro r hr hr2
    rcases h.all r hr hr2 with z | z
    · exact .inl (List.mem_append_left _ z)
    · rcases mem r z with z | z
      · exact .inl (List.mem_append_right _ (List.mem_singleton.mpr z))
      · exact .inr z
theorem head_le : ∀ {l : List Int} {M : Int}, l.Pairwise (· < ·) → (∀ x ∈ l, x < M) → ∀ (h : 0 < l.length), l[0] + l.length ≤ M
  | [a], M, _, hm, _ => by have := hm a List.mem_cons_self; simp; omega
  | a :: b :: l, M, hp, hm, _ => by
    obtain ⟨h1, h2⟩ := List.pairwise_cons.mp hp
    have := head_le h2 (fun x hx => hm x (List.mem_cons_of_mem _ hx)) (by simp)
    have := h1 b List.mem_cons_self
    simp at *
    omega

end Lk60
end part_Q9

section part_Q10
set_option Elab.async false
set_option linter.all false
set_option maxRecDepth 100000
set_option maxHeartbeats 1000000
namespace Lk60
open PySem U
theorem openN_len {left : List Int} {b : Int} : (openN left b).length ≤ left.length := List.length_filter_le _ _
theorem openN_pos {left : List Int} {b : Int} (h : 0 < left.length) (hb : left[0] ≤ b) : 0 < (openN left b).length := List.length_pos_of_mem (a := left[0]) (List.mem_filter.mpr ⟨List.getElem_mem h, by simpa using hb⟩)
theorem pop_ints {left : List Int} {i : Int} (h0 : 0 ≤ i) (h1 : i.toNat < left.length) (hl : left.length < 1000) : lmPop (left.map .int) [.int i] = some (.int left[i.toNat], (left.eraseIdx i.toNat).map .int) := by
  have e : seqIndex? i (left.map D.int).length = some i.toNat := (L2.ixN_seq (by unfold L2.ixN; rw [if_pos h0, if_pos (by simp; omega)])).1
  unfold lmPop
  simp only [e]
  rw [if_pos (by omega)]
  simp [h1, List.eraseIdx_eq_take_drop_succ]
theorem ord_turn {e L : Int} {left rows : List Int} {p k : Nat} {x : D} {u7 u8 : Option Sl} (h : OrdOk e L left rows p) (hL : 0 ≤ L) (hL2 : L < 10) (he0 : 0 ≤ e) (he : e ≤ 4) (hp : p < 20) (hx : PenOk x k) (hk : k < 1000) (h7 : k_fs (some u7) = true) (h8 : k_fs (some u8) = true) : ∃ x' left' rows' v7 v8, PenOk x' (k + 2) ∧ OrdOk e L left' rows' (p + 1) ∧ k_fs (some v7) = true ∧ k_fs (some v8) = true ∧
    l_order_73_0 [some (.own true x), some (.val false (.int e)), some (.val false (.int L)), some (.val false (.int 20)), some (.own false (.lst (left.map .int))), some (.own false (.lst (rows.map .int))), some (.val false (.int (p : Int))), u7, u8, none] =
      .nx [some (.own true x'), some (.val false (.int e)), some (.val false (.int L)), some (.val false (.int 20)), some (.own false (.lst (left'.map .int))), some (.own false (.lst (rows'.map .int))), some (.val false (.int (p : Int))), v7, v8, none] := by
  have hlen := h.len
  have l0 : 0 < left.length := by omega
  have hh := head_le h.asc (fun x hx => (h.rng x hx).2) l0
  have o1 := openN_pos (b := (p : Int) + e) l0 (by omega)
  have o2 := openN_len (left := left) (b := (p : Int) + e)
  have c := comp_open (ρ0 := some (.own true x)) (ρ2 := some (.val false (.int L))) (ρ3 := some (.val false (.int 20))) (ρ5 := some (.own false (.lst (rows.map .int)))) (ρ7 := u7) (ρ8 := u8) (pl := (p : Int)) (e := e) (lft := .lst (left.map .int)) left [] (by simp; omega)
  simp only [List.map_nil, List.nil_append] at c
  generalize hO : openN left ((p : Int) + e) = O at *
  obtain ⟨d, x1, ed, d1, d2, px1⟩ := draw_s (p := false) (m := (O.length : Int)) hx (by omega) (by omega) (by omega)
  obtain ⟨a, x2, ha, ea, px2⟩ := pick_s (p := false) (xs := [.int 0, .int ((O.length : Int) - 1), .int d]) px1 (by omega) (by simp) (by simp)
  have hi : ∃ i : Int, a = .int i ∧ 0 ≤ i ∧ i < left.length := by
    simp at ha
    rcases ha with rfl | rfl | rfl
    · exact ⟨_, rfl, by omega, by omega⟩
    · exact ⟨_, rfl, by omega, by omega⟩
    · exact ⟨_, rfl, by omega, by omega⟩
  obtain ⟨i, rfl, i0, i1⟩ := hi
  have hb : rows.length < big := by show _ < 1000000; have := h.rlen; omega
  by_cases hq : left[0] ≤ (p : Int) - L
  · have st := ord_step (j := 0) h hL he l0 fun _ => rfl
    have pp := pop_ints (i := 0) (by decide) (by simpa using l0) (by omega)
    simp at pp
    refine ⟨x2, left.eraseIdx 0, rows ++ [left[0]], some (.val false (.int O.length)), some (.val false (.int 0)), px2, st, rfl, rfl, ?_⟩
    unfold l_order_73_0 l_order_73_1 l_order_73_2 l_order_73_3
    simp (config := {decide := true}) [-List.map_map, U.escA_vs, U.escA_v0, U.gInt, U.gLen, U.gAbs, U.gList, U.gTuple, U.gSub, U.gAdd, U.gAddI, U.gAddN, U.gNeg, U.gLt, U.gLe, U.gGt, U.gGe, U.gIsN, U.isNon, U.gIdx, U.gMod, U.gDiv, U.lmAppend, U.lmExtend, U.lmReverse, U.truD, U.seqD, U.tagOf, U.clsOf, U.isTab, U.gIsi, U.isBox, U.isBo, U.lkB, L2.atI, L2.ixN, c, h7, h8, ed, ea, l0, hq, pp, hb]
  · have hil : i.toNat < left.length := by omega
    have st := ord_step (j := i.toNat) h hL he hil fun z => absurd z hq
    have pp := pop_ints i0 hil (by omega)
    refine ⟨x2, left.eraseIdx i.toNat, rows ++ [left[i.toNat]], some (.val false (.int O.length)), some (.val false (.int i)), px2, st, rfl, rfl, ?_⟩
    unfold l_order_73_0 l_order_73_1 l_order_73_2 l_order_73_3
    simp (config := {decide := true}) [-List.map_map, U.escA_vs, U.escA_v0, U.gInt, U.gLen, U.gAbs, U.gList, U.gTuple, U.gSub, U.gAdd, U.gAddI, U.gAddN, U.gNeg, U.gLt, U.gLe, U.gGt, U.gGe, U.gIsN, U.isNon, U.gIdx, U.gMod, U.gDiv, U.lmAppend, U.lmExtend, U.lmReverse, U.truD, U.seqD, U.tagOf, U.clsOf, U.isTab, U.gIsi, U.isBox, U.isBo, U.lkB, L2.atI, L2.ixN, c, h7, h8, ed, ea, l0, hq, pp, hb]

end Lk60
end part_Q10

section part_Q11
set_option Elab.async false
set_option linter.all false
set_option maxRecDepth 100000
set_option maxHeartbeats 1000000
namespace Lk60
open PySem U
theorem ord_loop {e L : Int} (hL : 0 ≤ L) (hL2 : L < 10) (he0 : 0 ≤ e) (he : e ≤ 4) : ∀ (m p : Nat) {left rows : List Int} {k : Nat} {x : D} {u6 u7 u8 : Option Sl}, p + m = 20 → OrdOk e L left rows p → PenOk x k → k + 2 * m < 1000 → k_fs (some u6) = true → k_fs (some u7) = true → k_fs (some u8) = true → ∃ x' left' rows' v6 v7 v8, PenOk x' (k + 2 * m) ∧ OrdOk e L left' rows' 20 ∧
    loopL (gOne 6) l_order_73_0 ((List.range' p m).map fun (j : Nat) => D.int (j : Int)) [some (.own true x), some (.val false (.int e)), some (.val false (.int L)), some (.val false (.int 20)), some (.own false (.lst (left.map .int))), some (.own false (.lst (rows.map .int))), u6, u7, u8, none] =
      .nx [some (.own true x'), some (.val false (.int e)), some (.val false (.int L)), some (.val false (.int 20)), some (.own false (.lst (left'.map .int))), some (.own false (.lst (rows'.map .int))), v6, v7, v8, none]
  | 0, p, left, rows, k, x, u6, u7, u8, hp, h, hx, _, _, _, _ => ⟨x, left, rows, u6, u7, u8, hx, ((show p = 20 by omega) ▸ h), (by rw [List.range'_zero, List.map_nil, loop_nil])⟩
  | m + 1, p, left, rows, k, x, u6, u7, u8, hp, h, hx, hk, h6, h7, h8 => by
    obtain ⟨x1, l1, r1, v7, v8, px, oo, k7, k8, e1⟩ := ord_turn h hL hL2 he0 he (by omega) hx (by omega) h7 h8
    obtain ⟨x2, l2, r2, w6, w7, w8, px2, oo2, e2⟩ := ord_loop hL hL2 he0 he m (p + 1) (by omega) oo px (by omega) (u6 := some (.val false (.int (p : Int)))) rfl k7 k8
    refine ⟨x2, l2, r2, w6, w7, w8, ((show k + 2 + 2 * m = k + 2 * (m + 1) by omega) ▸ px2), oo2, ?_⟩
    rw [List.range'_succ, List.map_cons, loop_cons, ← e2]
    simp (config := {decide := true}) [-List.map_map, U.escA_vs, U.escA_v0, U.gInt, U.gLen, U.gAbs, U.gList, U.gTuple, U.gSub, U.gAdd, U.gAddI, U.gAddN, U.gNeg, U.gLt, U.gLe, U.gGt, U.gGe, U.gIsN, U.isNon, U.gIdx, U.gMod, U.gDiv, U.lmAppend, U.lmExtend, U.lmReverse, U.truD, U.seqD, U.tagOf, U.clsOf, U.isTab, U.gIsi, U.isBox, U.isBo, U.lkB, L2.atI, L2.ixN, h6, e1]
theorem order_ok {e L : Int} (hL : 0 ≤ L) (hL2 : L < 10) (he0 : 0 ≤ e) (he : e ≤ 4) {k : Nat} {x : D} (hx : PenOk x k) (hk : k < 900) : ∃ x' left' rows', PenOk x' (k + 40) ∧ OrdOk e L left' rows' 20 ∧
    v_order [some (.own true x), some (.val false (.int e)), some (.val false (.int L)), some (.val false (.int 20))] = .ok (.fr (.lst (rows'.map .int))) [some (.own true x'), none, none, none] := by
  have o0 : OrdOk e L ((List.range (20 + e).toNat).map fun (j : Nat) => (j : Int)) [] 0 := by
    refine ⟨?_, ?_, ?_, rfl, List.nodup_nil, (fun x hx => nomatch hx), (fun x hx => nomatch hx), fun r h1 h2 => by omega, ?_⟩
    · exact List.pairwise_map.mpr (List.pairwise_lt_range.imp fun h => by omega)
    · intro x hx
      obtain ⟨j, hj, rfl⟩ := List.mem_map.mp hx
      have := List.mem_range.mp hj
      omega
    · simp; omega
    · intro r h1 h2
      exact .inr (List.mem_map.mpr ⟨r.toNat, List.mem_range.mpr (by omega), by omega⟩)
  obtain ⟨x', l', r', v6, v7, v8, px, oo, e1⟩ := ord_loop hL hL2 he0 he 20 0 rfl o0 hx (by omega) (u6 := none) (u7 := none) (u8 := none) rfl rfl rfl
  refine ⟨x', l', r', px, oo, ?_⟩
  have rg : rangeD 0 (20 + e).toNat = ((List.range (20 + e).toNat).map fun (j : Nat) => (j : Int)).map D.int := by unfold rangeD; rw [List.map_map]; congr 1; funext j; simp
  have r2 : rangeD 0 20 = (List.range' 0 20).map fun (j : Nat) => D.int (j : Int) := rfl
  have rk : rgOk 0 (20 + e) = true := decide_eq_true (by omega)
  rw [← rg] at e1
  simp only [List.map_nil] at e1
  unfold v_order f_order_0 f_order_1 f_order_2
  simp (config := {decide := true}) [-List.map_map, U.escA_vs, U.escA_v0, U.gInt, U.gLen, U.gAbs, U.gList, U.gTuple, U.gSub, U.gAdd, U.gAddI, U.gAddN, U.gNeg, U.gLt, U.gLe, U.gGt, U.gGe, U.gIsN, U.isNon, U.gIdx, U.gMod, U.gDiv, U.lmAppend, U.lmExtend, U.lmReverse, U.truD, U.seqD, U.tagOf, U.clsOf, U.isTab, U.gIsi, U.isBox, U.isBo, U.lkB, L2.atI, L2.ixN, rk, r2, e1]

end Lk60
end part_Q11

section part_Q12
set_option Elab.async false
set_option linter.all false
set_option maxRecDepth 100000
set_option maxHeartbeats 1000000
namespace Lk60
open PySem U
theorem srt_perm {ns : List Int} : (srt ns).Perm ns := by unfold srt; exact List.mergeSort_perm ns _
theorem srt_asc {ns : List Int} : (srt ns).Pairwise (· ≤ ·) := by
  unfold srt
  have := List.pairwise_mergeSort (le := fun a b : Int => decide (a ≤ b)) (by intro a b c h1 h2; simp at *; omega) (by intro a b; simp; omega) ns
  exact this.imp fun h => by simpa using h
def upto (n : Nat) : List Int := (List.range n).map fun (j : Nat) => (j : Int)
/-- an order: 20 numbers, none twice, each no more than L places late -/
structure Ord (L : Nat) (cs : List Int) : Prop where
  len : cs.length = 20
  nd : cs.Nodup
  pos : ∀ x ∈ cs, 0 ≤ x ∧ x < 30
  due : ∀ r : Nat, r + L < 20 → (r : Int) ∈ cs.take (r + L + 1)
structure RunOk (L : Nat) (cs : List Int) (p : Nat) (held : List Int) (last : Option Int) : Prop where
  perm : (upto (p - L) ++ held).Perm (cs.take p)
  asc : held.Pairwise (· ≤ ·)
  lst : last = if p ≤ L then none else some ((p : Int) - L - 1)
theorem upto_len (n : Nat) : (upto n).length = n := by simp [upto]
theorem mem_upto {n : Nat} {x : Int} : x ∈ upto n ↔ 0 ≤ x ∧ x < n := by
  unfold upto
  rw [List.mem_map]
  constructor
  · rintro ⟨j, hj, rfl⟩
    have := List.mem_range.mp hj
    omega
  · rintro ⟨h1, h2⟩
    exact ⟨x.toNat, List.mem_range.mpr (by omega), by omega⟩
theorem upto_succ (n : Nat) : upto (n + 1) = upto n ++ [(n : Int)] := by simp [upto, List.range_succ]
theorem run_len {L p : Nat} {cs held : List Int} {last : Option Int} (o : Ord L cs) (h : RunOk L cs p held last) (hp : p ≤ 20) : held.length = p - (p - L) := by
  have := h.perm.length_eq
  rw [List.length_append, upto_len, List.length_take, o.len] at this
  omega
theorem run_step {L p : Nat} {cs held : List Int} {last : Option Int} (o : Ord L cs) (hL : 1 ≤ L) (h : RunOk L cs p held last) (hp : p < 20) (n : Int) (hn : cs[p]? = some n) :
    (p < L → step L held last p n = (.tup [.str "put", .non], srt (held ++ [n]), last, (p : Int) + 1) ∧ RunOk L cs (p + 1) (srt (held ++ [n])) last) ∧
    (¬ p < L → ∃ t, step L held last p n = (.tup [.str "put", .int ((p : Int) - L)], t, some ((p : Int) - L), (p : Int) + 1) ∧ RunOk L cs (p + 1) t (some ((p : Int) - L))) := by
  have hl := run_len o h (by omega)
  have htake : cs.take (p + 1) = cs.take p ++ [n] := by rw [List.take_add_one, hn]; rfl
  have hpp : p < cs.length := by rw [o.len]; exact hp
  have hn' : n = cs[p] := by rw [List.getElem?_eq_getElem hpp] at hn; cases hn; rfl
  have hnc : n ∈ cs := hn' ▸ List.getElem_mem hpp
  have nd1 : (cs.take (p + 1)).Nodup := o.nd.sublist (List.take_sublist _ _)
  have nnot : n ∉ cs.take p := fun z => by
    rw [htake] at nd1
    exact (List.nodup_append.mp nd1).2.2 n z n List.mem_cons_self rfl
  have notlate : ∀ l, last = some l → ¬ n < l := by
    intro l hl z
    rw [h.lst] at hl
    split at hl
    · cases hl
    · cases hl
      have : n ∈ upto (p - L) := mem_upto.mpr ⟨(o.pos n hnc).1, by omega⟩
      exact nnot (h.perm.subset (List.mem_append_left _ this))
  have fitE : step L held last p n = step.fit L held p n last := by
    unfold step
    cases last with
    | none => rfl
    | some l => dsimp only; rw [if_neg (notlate l rfl)]
  have perm1 : (upto (p - L) ++ srt (held ++ [n])).Perm (cs.take (p + 1)) := by
    rw [htake]
    refine (List.Perm.append_left _ srt_perm).trans ?_
    rw [← List.append_assoc]
    exact h.perm.append_right _
  constructor
  · intro hpL
    refine ⟨?_, ?_, srt_asc, ?_⟩
    · rw [fitE]
      unfold step.fit
      rw [if_pos (by omega)]
    · rw [show p + 1 - L = p - L by omega]
      exact perm1
    · rw [h.lst, if_pos (by omega), if_pos (by omega)]
  · intro hpL
    have len1 : (srt (held ++ [n])).length = L + 1 := by rw [srt_len, List.length_append, hl]; simp; omega
    cases hR : srt (held ++ [n]) with
    | nil => rw [hR] at len1; simp at len1
    | cons a t =>
      rw [hR] at perm1
      have asc : (a :: t).Pairwise (· ≤ ·) := hR ▸ srt_asc
      -- the least one that is held is p - L
      have due : ((p - L : Nat) : Int) ∈ cs.take (p + 1) := by
        have := o.due (p - L) (by omega)
        rwa [show p - L + L + 1 = p + 1 by omega] at this
      have inR : ((p - L : Nat) : Int) ∈ a :: t := by
        rcases List.mem_append.mp (perm1.symm.subset due) with z | z
        · have := mem_upto.mp z; omega
        · exact z
      have ale : a ≤ ((p - L : Nat) : Int) := by
        rcases List.mem_cons.mp inR with z | z
        · omega
        · exact (List.pairwise_cons.mp asc).1 _ z
      have ain : a ∈ cs.take (p + 1) := perm1.subset (List.mem_append_right _ List.mem_cons_self)
      have age : ¬ a < ((p - L : Nat) : Int) := fun z => by
        have a0 := (o.pos a (List.mem_of_mem_take ain)).1
        have nd2 := perm1.symm.nodup nd1
        exact (List.nodup_append.mp nd2).2.2 a (mem_upto.mpr ⟨a0, z⟩) a List.mem_cons_self rfl
      have ea : a = (p : Int) - L := by omega
      subst ea
      refine ⟨t, ?_, ?_, (List.pairwise_cons.mp asc).2, ?_⟩
      · rw [fitE]
        unfold step.fit
        rw [if_neg (by omega), hR]
      · rw [show p + 1 - L = (p - L) + 1 by omega, upto_succ, List.append_assoc, show ((p - L : Nat) : Int) = (p : Int) - L by omega]
        exact perm1
      · rw [if_neg (by omega)]
        congr 1
        omega

end Lk60
end part_Q12

section part_Q13
set_option Elab.async false
set_option linter.all false
set_option maxRecDepth 100000
set_option maxHeartbeats 1000000
namespace Lk60
open PySem U
theorem run_turn {L p : Nat} {cs held : List Int} {last : Option Int} (o : Ord L cs) (hL : 1 ≤ L) (h : RunOk L cs p held last) (hp : p < 20) (n : Int) (hn : cs[p]? = some n) {s0 s1 s3 s4 t7 t8 t9 : Option Sl} (h8 : k_fs (some t8) = true) (k9 : (t9 = none)) : ∃ held' last' u8, RunOk L cs (p + 1) held' last' ∧ k_fs (some u8) = true ∧
    l_run_right_116_0 [s0, s1, some (.val false (.int (L : Int))), s3, s4, some (.own false (storeD L held (lastD last) p)), some (.own false (.lst ((upto (p - L)).map .int))), some (.val false (.int n)), t8, none] =
      .nx [s0, s1, some (.val false (.int (L : Int))), s3, s4, some (.own false (storeD L held' (lastD last') ((p + 1 : Nat) : Int))), some (.own false (.lst ((upto (p + 1 - L)).map .int))), some (.val false (.int n)), u8, none] := by
  have hl := run_len o h (by omega)
  have hpp : p < cs.length := by rw [o.len]; exact hp
  have hnc : n ∈ cs := by rw [List.getElem?_eq_getElem hpp] at hn; cases hn; exact List.getElem_mem hpp
  have nn := o.pos n hnc
  have e := lput_step (late := (L : Int)) (pl := (p : Int)) (n := n) (last := last) (rows := held) (p := false) nn.1 (by omega) (by omega)
  obtain ⟨c1, c2⟩ := run_step o hL h hp n hn
  have pc : ((p + 1 : Nat) : Int) = (p : Int) + 1 := by omega
  rw [pc]
  by_cases hpL : p < L
  · obtain ⟨st, ok⟩ := c1 hpL
    rw [st] at e
    dsimp only at e
    refine ⟨_, _, some (.val false (.tup [.str "put", .non])), ok, rfl, ?_⟩
    rw [show p + 1 - L = p - L by omega]
    unfold l_run_right_116_0 l_run_right_116_1 l_run_right_116_2
    generalize storeD (L : Int) held (lastD last) p = S at *
    generalize storeD (L : Int) (srt (held ++ [n])) (lastD last) (p + 1) = S2 at *
    simp (config := {decide := true}) [-List.map_map, U.escA_vs, U.escA_v0, U.gInt, U.gLen, U.gAbs, U.gList, U.gTuple, U.gSub, U.gAdd, U.gAddI, U.gAddN, U.gNeg, U.gLt, U.gLe, U.gGt, U.gGe, U.gIsN, U.isNon, U.gIdx, U.gMod, U.gDiv, U.lmAppend, U.lmExtend, U.lmReverse, U.truD, U.seqD, U.tagOf, U.clsOf, U.isTab, U.gIsi, U.isBox, U.isBo, U.lkB, L2.atI, L2.ixN, e, h8, eq_strs]
  · obtain ⟨t, st, ok⟩ := c2 hpL
    rw [st] at e
    dsimp only at e
    refine ⟨_, _, some (.val false (.tup [.str "put", .int ((p : Int) - L)])), ok, rfl, ?_⟩
    have hb : (upto (p - L)).length < big := by rw [upto_len]; show _ < 1000000; omega
    rw [show p + 1 - L = (p - L) + 1 by omega, upto_succ, show ((p - L : Nat) : Int) = (p : Int) - L by omega]
    unfold l_run_right_116_0 l_run_right_116_1 l_run_right_116_2
    generalize storeD (L : Int) held (lastD last) p = S at *
    generalize storeD (L : Int) t (lastD (some ((p : Int) - L))) (p + 1) = S2 at *
    simp (config := {decide := true}) [-List.map_map, U.escA_vs, U.escA_v0, U.gInt, U.gLen, U.gAbs, U.gList, U.gTuple, U.gSub, U.gAdd, U.gAddI, U.gAddN, U.gNeg, U.gLt, U.gLe, U.gGt, U.gGe, U.gIsN, U.isNon, U.gIdx, U.gMod, U.gDiv, U.lmAppend, U.lmExtend, U.lmReverse, U.truD, U.seqD, U.tagOf, U.clsOf, U.isTab, U.gIsi, U.isBox, U.isBo, U.lkB, L2.atI, L2.ixN, e, h8, eq_strs, hb]

end Lk60
end part_Q13

section part_Q14
set_option Elab.async false
set_option linter.all false
set_option maxRecDepth 100000
set_option maxHeartbeats 1000000
namespace Lk60
open PySem U
theorem run_loop {L : Nat} {cs : List Int} (o : Ord L cs) (hL : 1 ≤ L) {s0 s1 s3 s4 : Option Sl} : ∀ (m p : Nat) {held : List Int} {last : Option Int} {t7 t8 : Option Sl}, p + m = 20 → RunOk L cs p held last → k_fs (some t7) = true → k_fs (some t8) = true → ∃ held' last' u7 u8, RunOk L cs 20 held' last' ∧ k_fs (some u7) = true ∧ k_fs (some u8) = true ∧
    loopL (gOne 7) l_run_right_116_0 ((cs.drop p).map .int) [s0, s1, some (.val false (.int (L : Int))), s3, s4, some (.own false (storeD L held (lastD last) p)), some (.own false (.lst ((upto (p - L)).map .int))), t7, t8, none] =
      .nx [s0, s1, some (.val false (.int (L : Int))), s3, s4, some (.own false (storeD L held' (lastD last') ((20 : Nat) : Int))), some (.own false (.lst ((upto (20 - L)).map .int))), u7, u8, none]
  | 0, p, held, last, t7, t8, hp, h, h7, h8 => by
    obtain rfl : p = 20 := by omega
    exact ⟨held, last, t7, t8, h, h7, h8, by rw [List.drop_of_length_le (by rw [o.len]; exact Nat.le_refl _), List.map_nil, loop_nil]⟩
  | m + 1, p, held, last, t7, t8, hp, h, h7, h8 => by
    have hpp : p < cs.length := by rw [o.len]; omega
    obtain ⟨held1, last1, u8, ok1, k8, e1⟩ := run_turn o hL h (by omega) cs[p] (List.getElem?_eq_getElem hpp) (s0 := s0) (s1 := s1) (s3 := s3) (s4 := s4) (t7 := t7) (t9 := none) h8 rfl
    obtain ⟨held2, last2, v7, v8, ok2, k7, k8', e2⟩ := run_loop o hL (s0 := s0) (s1 := s1) (s3 := s3) (s4 := s4) m (p + 1) (t7 := some (.val false (.int cs[p]))) (by omega) ok1 rfl k8
    refine ⟨held2, last2, v7, v8, ok2, k7, k8', ?_⟩
    rw [← e2, List.drop_eq_getElem_cons hpp, List.map_cons, loop_cons]
    generalize storeD (L : Int) held (lastD last) p = S at *
    generalize D.lst (List.map D.int (upto (p - L))) = R at *
    simp (config := {decide := true}) [-List.map_map, U.escA_vs, U.escA_v0, U.gInt, U.gLen, U.gAbs, U.gList, U.gTuple, U.gSub, U.gAdd, U.gAddI, U.gAddN, U.gNeg, U.gLt, U.gLe, U.gGt, U.gGe, U.gIsN, U.isNon, U.gIdx, U.gMod, U.gDiv, U.lmAppend, U.lmExtend, U.lmReverse, U.truD, U.seqD, U.tagOf, U.clsOf, U.isTab, U.gIsi, U.isBox, U.isBo, U.lkB, L2.atI, L2.ixN, h7, e1]
/-- what is held at the end -/
theorem run_end {L : Nat} {cs held : List Int} {last : Option Int} (o : Ord L cs) (h : RunOk L cs 20 held last) (hL : L ≤ 20) : srt cs = upto (20 - L) ++ held := by
  have hp := h.perm
  rw [List.take_of_length_le (by rw [o.len]; exact Nat.le_refl _)] at hp
  have asc : (upto (20 - L) ++ held).Pairwise (· ≤ ·) := by
    refine List.pairwise_append.mpr ⟨?_, h.asc, fun a ha b hb => ?_⟩
    · unfold upto
      exact List.pairwise_map.mpr (List.pairwise_lt_range.imp fun h => by omega)
    · have nd := hp.symm.nodup o.nd
      have hne := (List.nodup_append.mp nd).2.2
      have hbc := (o.pos b (hp.subset (List.mem_append_right _ hb))).1
      have := mem_upto.mp ha
      by_cases z : b < ((20 - L : Nat) : Int)
      · exact absurd rfl (hne b (mem_upto.mpr ⟨hbc, z⟩) b hb)
      · omega
  exact List.Perm.eq_of_pairwise (fun a b _ _ h1 h2 => by omega) srt_asc asc (srt_perm.trans hp.symm)
theorem srt_of {ns : List Int} (h : ns.Pairwise (· ≤ ·)) : srt ns = ns := List.Perm.eq_of_pairwise (fun a b _ _ h1 h2 => by omega) srt_asc h srt_perm

end Lk60
end part_Q14

section part_Q15
set_option Elab.async false
set_option linter.all false
set_option maxRecDepth 100000
set_option maxHeartbeats 2000000
namespace Lk60
open PySem U
theorem ord_of {e : Int} {L : Nat} {left rows : List Int} (h : OrdOk e L left rows 20) : Ord L rows :=
  ⟨h.rlen, h.rnd, h.pos, fun r hr => by
    have := h.due r (by omega) (by omega)
    rwa [show ((r : Int) + L + 1).toNat = r + L + 1 by omega] at this⟩
/-- a put into the small store -/
theorem small_put {late pl n : Int} {last last2 : Option Int} {rows rows2 : List Int} {d : D} {pl2 : Int} (h1 : 0 ≤ n) (h2 : n < 10 ^ 60) (hl : rows.length < 1000) (st : step late rows last pl n = (d, rows2, last2, pl2)) :
    v_put [some (.own true (storeD late rows (lastD last) pl)), some (.val false (.int n))] = .ok (.v d) [some (.own true (storeD late rows2 (lastD last2) pl2)), none] := by
  have e := lput_step (late := late) (pl := pl) (n := n) (last := last) (rows := rows) (p := false) h1 h2 hl
  rw [st] at e
  exact e
/-- 1, 2, .. into a store of late L - 1 -/
theorem small_loop {L : Nat} (hL : L ≤ 20) {s0 s1 s2 s3 s4 s5 s6 : Option Sl} {ys : List D} : ∀ (m j : Nat) {t7 t8 : Option Sl}, j + m = L - 1 → k_fs (some t7) = true → ∃ u7, k_fs (some u7) = true ∧
    loopL (gOne 7) l_run_right_125_0 (((List.range' (j + 1) m).map fun (i : Nat) => D.int (i : Int)) ++ ys) [s0, s1, s2, s3, s4, s5, s6, t7, t8, some (.own false (storeD ((L : Int) - 1) ((List.range' 1 j).map fun (i : Nat) => (i : Int)) .non j))] =
      loopL (gOne 7) l_run_right_125_0 ys [s0, s1, s2, s3, s4, s5, s6, u7, t8, some (.own false (storeD ((L : Int) - 1) ((List.range' 1 (L - 1)).map fun (i : Nat) => (i : Int)) .non ((L - 1 : Nat) : Int)))]
  | 0, j, t7, t8, hj, h7 => by
    obtain rfl : j = L - 1 := by omega
    exact ⟨t7, h7, by rw [List.range'_zero, List.map_nil, List.nil_append]⟩
  | m + 1, j, t7, t8, hj, h7 => by
    have asc : ((List.range' 1 j).map (fun (i : Nat) => (i : Int)) ++ [((j + 1 : Nat) : Int)]) = (List.range' 1 (j + 1)).map fun (i : Nat) => (i : Int) := by
      rw [List.range'_concat]; simp; omega
    have ps : ((List.range' 1 (j + 1)).map fun (i : Nat) => (i : Int)).Pairwise (· ≤ ·) := List.pairwise_map.mpr ((List.pairwise_lt_range' (s := 1) (n := j + 1)).imp fun h => by omega)
    have st : step ((L : Int) - 1) ((List.range' 1 j).map fun (i : Nat) => (i : Int)) none (j : Int) ((j + 1 : Nat) : Int) = (.tup [.str "put", .non], (List.range' 1 (j + 1)).map (fun (i : Nat) => (i : Int)), none, ((j + 1 : Nat) : Int)) := by
      unfold step
      dsimp only
      unfold step.fit
      rw [if_pos (by simp; omega), asc, srt_of ps]
      congr 1
    have e := small_put (by omega) (by omega) (by simp; omega) st
    obtain ⟨u7, k7, e2⟩ := small_loop (L := L) hL (s0 := s0) (s1 := s1) (s2 := s2) (s3 := s3) (s4 := s4) (s5 := s5) (s6 := s6) (ys := ys) m (j + 1) (t7 := some (.val false (.int ((j + 1 : Nat) : Int)))) (t8 := t8) (by omega) rfl
    refine ⟨u7, k7, ?_⟩
    simp only [show lastD none = D.non from rfl] at e
    rw [← e2, List.range'_succ, List.map_cons, List.cons_append, loop_cons]
    generalize storeD ((L : Int) - 1) ((List.range' 1 j).map fun (i : Nat) => (i : Int)) .non j = S at *
    generalize storeD ((L : Int) - 1) ((List.range' 1 (j + 1)).map fun (i : Nat) => (i : Int)) .non ((j + 1 : Nat) : Int) = S2 at *
    generalize ((j + 1 : Nat) : Int) = n at *
    unfold l_run_right_125_0
    simp (config := {decide := true}) [-List.map_map, U.escA_vs, U.escA_v0, U.gInt, U.gLen, U.gAbs, U.gList, U.gTuple, U.gSub, U.gAdd, U.gAddI, U.gAddN, U.gNeg, U.gLt, U.gLe, U.gGt, U.gGe, U.gIsN, U.isNon, U.gIdx, U.gMod, U.gDiv, U.lmAppend, U.lmExtend, U.lmReverse, U.truD, U.seqD, U.tagOf, U.clsOf, U.isTab, U.gIsi, U.isBox, U.isBo, U.lkB, L2.atI, L2.ixN, h7, e, eq_strs]
theorem rg_shift (a m : Nat) : List.range' a m ++ [a + m] = a :: List.range' (a + 1) m := by rw [← List.range'_succ, List.range'_concat, Nat.one_mul]
/-- the last three puts into it -/
theorem small_end {L : Nat} (h1 : 1 ≤ L) (hL : L ≤ 20) : ∃ S1 S2 S3 : D,
    v_put [some (.own true (storeD ((L : Int) - 1) ((List.range' 1 (L - 1)).map fun (i : Nat) => (i : Int)) .non ((L - 1 : Nat) : Int))), some (.val false (.int (L : Int)))] = .ok (.v (.tup [.str "put", .int 1])) [some (.own true S1), none] ∧
    v_put [some (.own true S1), some (.val false (.int 0))] = .ok (.v (.tup [.str "unfit", .int (L : Int)])) [some (.own true S2), none] ∧
    v_put [some (.own true S2), some (.val false (.int ((L : Int) + 1)))] = .ok (.v (.tup [.str "put", .int 2])) [some (.own true S3), none] := by
  have asc : ∀ (a n : Nat), ((List.range' a n).map fun (i : Nat) => (i : Int)).Pairwise (· ≤ ·) := fun a n => List.pairwise_map.mpr ((List.pairwise_lt_range' (s := a) (n := n)).imp fun h => by omega)
  have st1 : step ((L : Int) - 1) ((List.range' 1 (L - 1)).map fun (i : Nat) => (i : Int)) none ((L - 1 : Nat) : Int) (L : Int) = (.tup [.str "put", .int 1], (List.range' 2 (L - 1)).map (fun (i : Nat) => (i : Int)), some 1, (L : Int)) := by
    have e : (List.range' 1 (L - 1)).map (fun (i : Nat) => (i : Int)) ++ [(L : Int)] = (1 : Int) :: (List.range' 2 (L - 1)).map (fun (i : Nat) => (i : Int)) := by
      have : (List.range' 1 (L - 1)) ++ [L] = 1 :: List.range' 2 (L - 1) := by
        obtain ⟨m, rfl⟩ : ∃ m, L = m + 1 := ⟨L - 1, by omega⟩
        have := rg_shift 1 m
        rw [show m + 1 - 1 = m by omega, show m + 1 = 1 + m by omega]
        exact this
      have := congrArg (List.map fun (i : Nat) => (i : Int)) this
      simpa using this
    have e2 : srt ((List.range' 1 (L - 1)).map (fun (i : Nat) => (i : Int)) ++ [(L : Int)]) = (1 : Int) :: (List.range' 2 (L - 1)).map (fun (i : Nat) => (i : Int)) := by
      refine e ▸ srt_of ?_
      have := asc 1 L
      rw [show L = (L - 1) + 1 by omega, List.range'_succ] at this
      rw [e]
      simpa using this
    unfold step
    dsimp only
    unfold step.fit
    rw [if_neg (by simp; omega), e2]
    dsimp only
    rw [show ((L - 1 : Nat) : Int) + 1 = (L : Int) by omega]
  have st3 : step ((L : Int) - 1) ((List.range' 2 (L - 1)).map fun (i : Nat) => (i : Int)) (some 1) (L : Int) ((L : Int) + 1) = (.tup [.str "put", .int 2], (List.range' 3 (L - 1)).map (fun (i : Nat) => (i : Int)), some 2, (L : Int) + 1) := by
    have e : (List.range' 2 (L - 1)).map (fun (i : Nat) => (i : Int)) ++ [(L : Int) + 1] = (2 : Int) :: (List.range' 3 (L - 1)).map (fun (i : Nat) => (i : Int)) := by
      have : (List.range' 2 (L - 1)) ++ [L + 1] = 2 :: List.range' 3 (L - 1) := by
        obtain ⟨m, rfl⟩ : ∃ m, L = m + 1 := ⟨L - 1, by omega⟩
        have := rg_shift 2 m
        rw [show m + 1 - 1 = m by omega, show m + 1 + 1 = 2 + m by omega]
        exact this
      have := congrArg (List.map fun (i : Nat) => (i : Int)) this
      simpa using this
    have e2 : srt ((List.range' 2 (L - 1)).map (fun (i : Nat) => (i : Int)) ++ [(L : Int) + 1]) = (2 : Int) :: (List.range' 3 (L - 1)).map (fun (i : Nat) => (i : Int)) := by
      refine e ▸ srt_of ?_
      have := asc 2 L
      rw [show L = (L - 1) + 1 by omega, List.range'_succ] at this
      rw [e]
      simpa using this
    unfold step
    dsimp only
    rw [if_neg (by omega)]
    unfold step.fit
    rw [if_neg (by simp; omega), e2]
  have z : (0 : Int) < 10 ^ 60 := by decide
  have p1 := small_put (by omega) (by omega) (by simp; omega) st1
  have p2 := lput_unfit (late := (L : Int) - 1) (pl := (L : Int)) (rows := (List.range' 2 (L - 1)).map fun (i : Nat) => (i : Int)) (p := false) (l := 1) (n := 0) (Int.le_refl 0) z (by omega)
  have p3 := small_put (by omega) (by omega) (by simp; omega) st3
  exact ⟨_, _, _, p1, p2, p3⟩

end Lk60
end part_Q15

section part_Q16
set_option Elab.async false
set_option linter.all false
set_option maxRecDepth 100000
set_option maxHeartbeats 2000000
namespace Lk60
open PySem U
theorem rg_upto {m n : Int} {k : Nat} (h : m - n = k) : rangeD 0 (m - n).toNat = (upto k).map D.int := by
  rw [h]; unfold rangeD upto; rw [List.map_map]; congr 1; funext j; simp
theorem rg_one {L : Nat} (h : 1 ≤ L) : rangeD 1 L = ((List.range' (0 + 1) (L - 1)).map fun (i : Nat) => D.int (i : Int)) ++ [.int (L : Int)] := by
  have : rangeD 1 L = (List.range' 1 L).map fun (i : Nat) => D.int (i : Int) := by
    unfold rangeD
    rw [List.range'_eq_map_range, List.map_map]
    congr 1
  rw [this]
  obtain ⟨m, rfl⟩ : ∃ m, L = m + 1 := ⟨L - 1, by omega⟩
  rw [List.range'_concat, List.map_append]
  simp [Int.add_comm]
theorem sl_from {xs : List D} {lo : Int} (h : 0 ≤ lo) : gSl (some lo) none (.lst xs) = some (.fr (.lst (xs.drop lo.toNat))) := by
  simp only [gSl, cutD, HT.sIx]
  rw [if_neg (by omega)]
  congr 3
  by_cases z : lo.toNat ≤ xs.length
  · rw [Nat.min_eq_left z, List.take_of_length_le (by simp)]
  · rw [List.drop_of_length_le (by omega), List.drop_of_length_le (by omega), List.take_nil]
theorem run_ok {x : D} {k : Nat} (hx : PenOk x k) (hk : k < 800) : ∃ x', PenOk x' (k + 42) ∧ v_run_right [some (.own true x)] = .ok (.v (.bl true)) [some (.own true x')] := by
  obtain ⟨d1, x1, e1, a1, b1, p1⟩ := draw_s (p := false) (m := 4) hx (by omega) (by decide) (by decide)
  obtain ⟨d2, x2, e2, a2, b2, p2⟩ := draw_s (p := false) (m := 6) p1 (by omega) (by decide) (by decide)
  obtain ⟨L, hL⟩ : ∃ L : Nat, d2 = L - 1 := ⟨(1 + d2).toNat, by omega⟩
  have hL2 : 1 + d2 = L := by omega
  obtain ⟨x3, left, rows, p3, oo, e3⟩ := order_ok (e := 1 + d1) (L := (L : Int)) (by omega) (by omega) (by omega) (by omega) p2 (by omega)
  have o := ord_of oo
  have r0 : RunOk L rows 0 [] none := ⟨by simp [upto], List.Pairwise.nil, by simp⟩
  obtain ⟨held, last, u7, u8, rr, k7, k8, e4⟩ := run_loop o (by omega) (s0 := some (.own true x3)) (s1 := some (.val false (.int (1 + d1)))) (s3 := some (.val false (.int 20))) (s4 := some (.lent false (.lst (rows.map .int)))) 20 0 (t7 := none) (t8 := none) rfl r0 rfl rfl
  have re := run_end o rr (by omega)
  have sr := sorted_ints (ns := rows)
  rw [re, List.map_append] at sr
  have ul : (upto (20 - L)).length = 20 - L := upto_len _
  have i1 := init_ok (p := false) (late := (L : Int)) (by omega) (by omega)
  have i2 := init_ok (p := false) (late := (L : Int) - 1) (by omega) (by omega)
  obtain ⟨u9, k9, e5⟩ := small_loop (L := L) (by omega) (s0 := some (.own true x3)) (s1 := some (.val false (.int (1 + d1)))) (s2 := some (.val false (.int (L : Int)))) (s3 := some (.val false (.int 20))) (s4 := some (.own false (.lst (rows.map .int)))) (s5 := some (.own false (storeD L held (lastD last) 20))) (s6 := some (.own false (.lst ((upto (20 - L)).map .int)))) (ys := [.int (L : Int)]) (L - 1) 0 (t7 := u7) (t8 := u8) (by omega) k7
  obtain ⟨S1, S2, S3, f1, f2, f3⟩ := small_end (L := L) (by omega) (by omega)
  refine ⟨x3, p3, ?_⟩
  have c1 : rgOk 0 (20 - (L : Int)) = true := decide_eq_true (by omega)
  have c2 : rgOk 1 ((L : Int) + 1) = true := decide_eq_true (by omega)
  have c3 : rangeD 0 (20 - L) = (upto (20 - L)).map D.int := by
    have := rg_upto (m := 20) (n := L) (k := 20 - L) (by omega)
    rwa [show ((20 : Int) - L).toNat = 20 - L by omega] at this
  have q5 : gSl (some (20 - (L : Int))) none (.lst ((upto (20 - L)).map D.int ++ held.map D.int)) = some (.fr (.lst (held.map .int))) := by
    rw [sl_from (by omega), List.drop_left' (by simp [ul])]
  have c4 : rangeD 1 L = _ := rg_one (L := L) (by omega)
  simp only [List.map_nil, List.drop_zero, List.range'_zero, show upto (0 - L) = [] from by simp [upto], show lastD none = D.non from rfl, show ((0 : Nat) : Int) = 0 from rfl, show ((20 : Nat) : Int) = 20 from rfl] at e4 e5
  rw [← c4] at e5
  have q1 : gEq true (.lst ((upto (20 - L)).map .int)) (.lst ((upto (20 - L)).map .int)) = some (.v (.bl false)) := by rw [eq_lists]; simp
  have q2 : gEq true (.lst (held.map .int)) (.lst (held.map .int)) = some (.v (.bl false)) := by rw [eq_lists]; simp
  have q3 : gEq false (.tup [.str "unfit", .int (L : Int)]) (.tup [.str "unfit", .int (L : Int)]) = some (.v (.bl true)) := by ((simp (config := {decide := true}) [U.gEq, U.gEqS, U.gEqD, U.py, U.pyL, SeqAt.shaped, PyData.canLay0, PyData.canLayAll0, PyData.depth, PyData.depthAll, PyData.eqv, PyData.eqvAll] <;> decide +kernel))
  have q4 : gEq false (.tup [.str "put", .int 2]) (.tup [.str "put", .int 2]) = some (.v (.bl true)) := by ((simp (config := {decide := true}) [U.gEq, U.gEqS, U.gEqD, U.py, U.pyL, SeqAt.shaped, PyData.canLay0, PyData.canLayAll0, PyData.depth, PyData.depthAll, PyData.eqv, PyData.eqvAll] <;> decide +kernel))
  have kL : L ≤ 20 := by omega
  generalize hB1 : storeD (L : Int) [] .non 0 = B1 at *
  generalize hB2 : storeD (L : Int) held (lastD last) 20 = B2 at *
  generalize hB3 : storeD ((L : Int) - 1) [] .non 0 = B3 at *
  have g1 : gFld [3] "held" B2 = some (.v (.tup (held.map .int))) := by rw [← hB2]; rfl
  generalize hB4 : storeD ((L : Int) - 1) ((List.range' 1 (L - 1)).map fun (i : Nat) => (i : Int)) .non ((L - 1 : Nat) : Int) = B4 at *
  have e6 : loopL (gOne 7) l_run_right_125_0 [D.int (L : Int)] [some (.own true x3), some (.val false (.int (1 + d1))), some (.val false (.int (L : Int))), some (.val false (.int 20)), some (.own false (.lst (rows.map .int))), some (.own false B2), some (.own false (.lst ((upto (20 - L)).map .int))), u9, u8, some (.own false B4)] =
      .nx [some (.own true x3), some (.val false (.int (1 + d1))), some (.val false (.int (L : Int))), some (.val false (.int 20)), some (.own false (.lst (rows.map .int))), some (.own false B2), some (.own false (.lst ((upto (20 - L)).map .int))), some (.val false (.int (L : Int))), u8, some (.own false S1)] := by
    rw [loop_cons]
    unfold l_run_right_125_0
    simp (config := {decide := true}) [-List.map_map, U.escA_vs, U.escA_v0, U.gInt, U.gLen, U.gAbs, U.gList, U.gTuple, U.gSub, U.gAdd, U.gAddI, U.gAddN, U.gNeg, U.gLt, U.gLe, U.gGt, U.gGe, U.gIsN, U.isNon, U.gIdx, U.gMod, U.gDiv, U.lmAppend, U.lmExtend, U.lmReverse, U.truD, U.seqD, U.tagOf, U.clsOf, U.isTab, U.gIsi, U.isBox, U.isBo, U.lkB, L2.atI, L2.ixN, k9, f1, eq_strs, loop_nil]
  rw [e6] at e5
  unfold v_run_right f_run_right_0 f_run_right_1 f_run_right_2 f_run_right_3 f_run_right_4 f_run_right_5 f_run_right_6 f_run_right_7
  simp (config := {decide := true}) [-List.map_map, U.escA_vs, U.escA_v0, U.gInt, U.gLen, U.gAbs, U.gList, U.gTuple, U.gSub, U.gAdd, U.gAddI, U.gAddN, U.gNeg, U.gLt, U.gLe, U.gGt, U.gGe, U.gIsN, U.isNon, U.gIdx, U.gMod, U.gDiv, U.lmAppend, U.lmExtend, U.lmReverse, U.truD, U.seqD, U.tagOf, U.clsOf, U.isTab, U.gIsi, U.isBox, U.isBo, U.lkB, L2.atI, L2.ixN, e1, e2, hL2, e3, i1, e4, i2, c1, c2, c3, sr, q5, q1, q2, q3, q4, g1, e5, f2, f3]

end Lk60
end part_Q16

section part_Q17
set_option Elab.async false
set_option linter.all false
set_option maxRecDepth 100000
set_option maxHeartbeats 2000000
namespace Lk60
open PySem U
theorem pen_s {ns : List Int} {p : Bool} : ∃ x, PenOk x 0 ∧ v_pen [some (.val p (.scr ns))] = .ok (.fr x) [none] := by
  refine ⟨pen (ns.take 63) 0 0, ⟨_, _, _, rfl, by omega, by omega, by omega⟩, ?_⟩
  have e : gSl none (some 63) (.scr ns) = some (.fr (.lst ((ns.take 63).map .int))) := by
    simp only [gSl, cutD, HT.sIx]
    congr 3
    rw [if_neg (by omega), List.drop_zero, List.length_map, Nat.sub_zero]
    rw [List.map_take]
    by_cases z : 63 ≤ ns.length
    · rw [Nat.min_eq_left (by simpa using z)]; rfl
    · rw [Nat.min_eq_right (by simp; omega), List.take_of_length_le (by simp), List.take_of_length_le (by simp; omega)]
  unfold v_pen f_pen_0 pen
  simp (config := {decide := true}) [-List.map_map, U.escA_vs, U.escA_v0, U.gInt, U.gLen, U.gAbs, U.gList, U.gTuple, U.gSub, U.gAdd, U.gAddI, U.gAddN, U.gNeg, U.gLt, U.gLe, U.gGt, U.gGe, U.gIsN, U.isNon, U.gIdx, U.gMod, U.gDiv, U.lmAppend, U.lmExtend, U.lmReverse, U.truD, U.seqD, U.tagOf, U.clsOf, U.isTab, U.gIsi, U.isBox, U.isBo, U.lkB, L2.atI, L2.ixN, e]
theorem comp_nums {s0 s2 s3 s4 s6 : Option Sl} {m : Int} (hm : 0 < m) (hm2 : m.natAbs < 2 ^ 250) : ∀ (xs acc : List Int) {x : D} {k : Nat}, PenOk x k → k + xs.length < 1000 → acc.length + xs.length < 1000 → (∀ x ∈ xs, 0 ≤ x ∧ x < 25) → ∃ ys x', PenOk x' (k + xs.length) ∧ ys.length = xs.length ∧ (∀ y ∈ ys, 0 ≤ y ∧ y < m + 25) ∧
    compL [7] (gOne 7) tYesU c_law_142_19 (xs.map .int) (acc.map .int) [s0, some (.own false x), s2, s3, s4, some (.val false (.int m)), s6, none, none] =
      .ok ((acc ++ ys).map .int) [s0, some (.own false x'), s2, s3, s4, some (.val false (.int m)), s6, none, none]
  | [], acc, x, k, hx, _, _, _ => ⟨[], x, hx, rfl, by simp, by rw [List.map_nil, comp_nil]; simp⟩
  | a :: xs, acc, x, k, hx, hk, hl, h => by
    simp only [List.length_cons] at hk hl
    obtain ⟨d, x1, e1, d1, d2, p1⟩ := draw_s (p := false) (m := m) hx (by omega) hm hm2
    obtain ⟨ys, x2, p2, l2, b2, e2⟩ := comp_nums (s0 := s0) (s2 := s2) (s3 := s3) (s4 := s4) (s6 := s6) hm hm2 xs (acc ++ [d + a]) p1 (by omega) (by simp; omega) (fun y hy => h y (List.mem_cons_of_mem _ hy))
    have ha := h a List.mem_cons_self
    refine ⟨(d + a) :: ys, x2, (by simpa [Nat.add_assoc, Nat.add_comm, Nat.add_left_comm] using p2), by simp [l2], ?_, ?_⟩
    · intro y hy
      rcases List.mem_cons.mp hy with rfl | hy
      · omega
      · exact b2 y hy
    · have hb : acc.length < big := by show _ < 1000000; omega
      rw [List.map_cons, comp_cons]
      simp only [List.map_append, List.map_cons, List.map_nil, List.append_assoc, List.singleton_append] at e2 ⊢
      rw [← e2]
      unfold c_law_142_19
      simp (config := {decide := true}) [-List.map_map, U.escA_vs, U.escA_v0, U.gInt, U.gLen, U.gAbs, U.gList, U.gTuple, U.gSub, U.gAdd, U.gAddI, U.gAddN, U.gNeg, U.gLt, U.gLe, U.gGt, U.gGe, U.gIsN, U.isNon, U.gIdx, U.gMod, U.gDiv, U.lmAppend, U.lmExtend, U.lmReverse, U.truD, U.seqD, U.tagOf, U.clsOf, U.isTab, U.gIsi, U.isBox, U.isBo, U.lkB, L2.atI, L2.ixN, e1, hb]
theorem comp_wide {s0 s1 s2 s3 s4 s5 s6 : Option Sl} : ∀ (xs acc : List Int) (i : Nat), i + xs.length < 100 → acc.length + xs.length < 1000 → (∀ x ∈ xs, 0 ≤ x ∧ x < 10 ^ 20 + 25) → ∃ ys, ys.length = xs.length ∧ (∀ y ∈ ys, 0 ≤ y ∧ y < 10 ^ 60) ∧
    compL [7, 8] (gMany [7, 8]) tYesU c_law_144_23 (enumD i (xs.map .int)) (acc.map .int) [s0, s1, s2, s3, s4, s5, s6, none, none] =
      .ok ((acc ++ ys).map .int) [s0, s1, s2, s3, s4, s5, s6, none, none]
  | [], acc, i, _, _, _ => ⟨[], rfl, by simp, by rw [List.map_nil, enumD, comp_nil]; simp⟩
  | a :: xs, acc, i, hk, hl, h => by
    simp only [List.length_cons] at hk hl
    have ha := h a List.mem_cons_self
    obtain ⟨ys, l2, b2, e2⟩ := comp_wide (s0 := s0) (s1 := s1) (s2 := s2) (s3 := s3) (s4 := s4) (s5 := s5) (s6 := s6) xs (acc ++ [a * 1000000000000000000000000000000000000000 + i]) (i + 1) (by omega) (by simp; omega) (fun y hy => h y (List.mem_cons_of_mem _ hy))
    refine ⟨(a * 1000000000000000000000000000000000000000 + i) :: ys, by simp [l2], ?_, ?_⟩
    · intro y hy
      rcases List.mem_cons.mp hy with rfl | hy
      · have := ha.1; have := ha.2; omega
      · exact b2 y hy
    · have hb : acc.length < big := by show _ < 1000000; omega
      have p : gPow (.int 10) (.int 39) = some (.v (.int 1000000000000000000000000000000000000000)) := (pow_ok (i := 10) (n := 39) (by decide) (by decide)).trans (by simp)
      have q := mul_ok (i := a) (j := 1000000000000000000000000000000000000000) (by have := ha.1; have := ha.2; omega) (by decide)
      rw [List.map_cons, enumD, comp_cons]
      simp only [List.map_append, List.map_cons, List.map_nil, List.append_assoc, List.singleton_append] at e2 ⊢
      rw [← e2]
      unfold c_law_144_23
      simp (config := {decide := true}) [-List.map_map, U.escA_vs, U.escA_v0, U.gInt, U.gLen, U.gAbs, U.gList, U.gTuple, U.gSub, U.gAdd, U.gAddI, U.gAddN, U.gNeg, U.gLt, U.gLe, U.gGt, U.gGe, U.gIsN, U.isNon, U.gIdx, U.gMod, U.gDiv, U.lmAppend, U.lmExtend, U.lmReverse, U.truD, U.seqD, U.tagOf, U.clsOf, U.isTab, U.gIsi, U.isBox, U.isBo, U.lkB, L2.atI, L2.ixN, p, q, hb]
theorem law_tail {x : D} {k : Nat} {way late : Int} {ns : List Int} {s0 s4 s5 : Option Sl} (hx : PenOk x k) (hk : k < 1000) (h0 : 0 ≤ late) (h1 : late < 21) (hn : ∀ n ∈ ns, numOk n) (hl : ns.length < 60) : ∃ x', f_law_6 [s0, some (.own false x), some (.val false (.int way)), some (.val false (.int late)), s4, s5, some (.own false (.lst (ns.map .int))), none, none] = .rt (.v (.bl true)) [s0, some (.own false x'), some (.val false (.int way)), some (.val false (.int late)), s4, s5, some (.own false (.lst (ns.map .int))), none, none] := by
  obtain ⟨d, x1, hd, e1, p1⟩ := pick_s (p := false) (xs := [.int late, .int (late % 4)]) hx (by omega) (by simp) (by simp)
  obtain ⟨late2, rfl, b1, b2⟩ : ∃ l2 : Int, d = .int l2 ∧ 0 ≤ l2 ∧ l2 < 21 := by
    simp at hd
    rcases hd with rfl | rfl
    · exact ⟨_, rfl, h0, h1⟩
    · exact ⟨_, rfl, by omega, by omega⟩
  obtain ⟨x2, p2, e2⟩ := steps_ok p1 (by omega) b1 b2 hn hl
  have m := mod_ok (i := late) (j := 4) (by decide)
  refine ⟨x2, ?_⟩
  unfold f_law_6
  simp (config := {decide := true}) [-List.map_map, U.escA_vs, U.escA_v0, U.gInt, U.gLen, U.gAbs, U.gList, U.gTuple, U.gSub, U.gAdd, U.gAddI, U.gAddN, U.gNeg, U.gLt, U.gLe, U.gGt, U.gGe, U.gIsN, U.isNon, U.gIdx, U.gMod, U.gDiv, U.lmAppend, U.lmExtend, U.lmReverse, U.truD, U.seqD, U.tagOf, U.clsOf, U.isTab, U.gIsi, U.isBox, U.isBo, U.lkB, L2.atI, L2.ixN, e1, e2, m]
theorem rg_many {n : Int} (h : 0 ≤ n) (h2 : n < 25) : ∃ xs : List Int, (xs.length : Int) = n ∧ (∀ x ∈ xs, 0 ≤ x ∧ x < 25) ∧ rangeD 0 n.toNat = xs.map .int := by
  refine ⟨(List.range n.toNat).map fun (j : Nat) => (j : Int), by simp; omega, ?_, by unfold rangeD; rw [List.map_map]; congr 1; funext j; simp⟩
  intro x hx
  obtain ⟨j, hj, rfl⟩ := List.mem_map.mp hx
  have := List.mem_range.mp hj
  omega
theorem law_ok : LawOk v_law := by
  intro ns _ _
  obtain ⟨x, px, e0⟩ := pen_s (ns := ns) (p := false)
  obtain ⟨way, x1, e1, w0, w1, p1⟩ := draw_s (p := false) (m := 4) px (by omega) (by decide) (by decide)
  obtain ⟨late, x2, e2, l0, l1, p2⟩ := draw_s (p := false) (m := 21) p1 (by omega) (by decide) (by decide)
  obtain ⟨many, x3, e3, m0, m1, p3⟩ := draw_s (p := false) (m := 25) p2 (by omega) (by decide) (by decide)
  by_cases h3 : way = 3
  · obtain ⟨x4, p4, e4⟩ := run_ok p3 (by omega)
    obtain ⟨x5, p5, e5⟩ := made_ok p4 (by omega)
    subst h3
    unfold v_law f_law_0 f_law_1 f_law_2
    simp (config := {decide := true}) [-List.map_map, U.escA_vs, U.escA_v0, U.gInt, U.gLen, U.gAbs, U.gList, U.gTuple, U.gSub, U.gAdd, U.gAddI, U.gAddN, U.gNeg, U.gLt, U.gLe, U.gGt, U.gGe, U.gIsN, U.isNon, U.gIdx, U.gMod, U.gDiv, U.lmAppend, U.lmExtend, U.lmReverse, U.truD, U.seqD, U.tagOf, U.clsOf, U.isTab, U.gIsi, U.isBox, U.isBo, U.lkB, L2.atI, L2.ixN, e0, e1, e2, e3, e4, e5, eq_ints]
  · obtain ⟨most, hi, hm0, hm1⟩ : ∃ most : Int, gIdx (.lst [.int 6, .int 40, .int 100000000000000000000]) (.int way) = some (.v (.int most)) ∧ 0 < most ∧ (most = 100000000000000000000 ∨ most ≤ 40 ∧ way ≠ 2) := by
      have : way = 0 ∨ way = 1 ∨ way = 2 := by omega
      rcases this with rfl | rfl | rfl
      · exact ⟨6, idx_lst (by decide) rfl, by decide, .inr ⟨by decide, by decide⟩⟩
      · exact ⟨40, idx_lst (by decide) rfl, by decide, .inr ⟨by decide, by decide⟩⟩
      · exact ⟨100000000000000000000, idx_lst (by decide) rfl, by decide, .inl rfl⟩
    obtain ⟨xs, hxl, hxb, hxr⟩ := rg_many m0 m1
    obtain ⟨ys, x4, p4, yl, yb, e4⟩ := comp_nums (s0 := some (.val false (.scr ns))) (s2 := some (.val false (.int way))) (s3 := some (.val false (.int late))) (s4 := some (.val false (.int many))) (s6 := none) hm0 (by rcases hm1 with rfl | h <;> omega) xs [] p3 (by omega) (by simp; omega) hxb
    have p : gPow (.int 10) (.int 20) = some (.v (.int 100000000000000000000)) := (pow_ok (i := 10) (n := 20) (by decide) (by decide)).trans (by simp)
    have rk : rgOk 0 many = true := decide_eq_true (by omega)
    have sm : small62 many = true := decide_eq_true (by omega)
    simp only [List.map_nil, List.nil_append] at e4
    by_cases h2 : way = 2
    · subst h2
      obtain rfl : most = 100000000000000000000 := by rcases hm1 with h | h; exact h; exact absurd rfl h.2
      obtain ⟨zs, zl, zb, e5⟩ := comp_wide (s0 := some (.val false (.scr ns))) (s1 := some (.own false x4)) (s2 := some (.val false (.int 2))) (s3 := some (.val false (.int late))) (s4 := some (.val false (.int many))) (s5 := some (.val false (.int 100000000000000000000))) (s6 := some (.lent false (.lst (ys.map .int)))) ys [] 0 (by omega) (by simp; omega) (fun y hy => by have := yb y hy; omega)
      obtain ⟨ρ, e6⟩ := law_tail (way := 2) (s0 := some (.val false (.scr ns))) (s4 := some (.val false (.int many))) (s5 := some (.val false (.int 100000000000000000000))) p4 (by omega) l0 l1 zb (by omega)
      simp only [List.map_nil, List.nil_append] at e5
      unfold v_law f_law_0 f_law_1 f_law_2 f_law_3 f_law_4 f_law_5
      simp (config := {decide := true}) [-List.map_map, U.escA_vs, U.escA_v0, U.gInt, U.gLen, U.gAbs, U.gList, U.gTuple, U.gSub, U.gAdd, U.gAddI, U.gAddN, U.gNeg, U.gLt, U.gLe, U.gGt, U.gGe, U.gIsN, U.isNon, U.gIdx, U.gMod, U.gDiv, U.lmAppend, U.lmExtend, U.lmReverse, U.truD, U.seqD, U.tagOf, U.clsOf, U.isTab, U.gIsi, U.isBox, U.isBo, U.lkB, L2.atI, L2.ixN, e0, e1, e2, e3, eq_ints, p, hi, rk, sm, hxr, e4, e5, e6]
    · obtain ⟨ρ, e6⟩ := law_tail (way := way) (s0 := some (.val false (.scr ns))) (s4 := some (.val false (.int many))) (s5 := some (.val false (.int most))) p4 (by omega) l0 l1 (ns := ys) (fun y hy => by have := yb y hy; unfold numOk; rcases hm1 with rfl | h <;> omega) (by omega)
      have : way = 0 ∨ way = 1 := by omega
      rcases this with rfl | rfl
      · have hj : most = 6 := by
          have := hi.symm.trans (show _ = some (Rv.v (D.int 6)) from idx_lst (by decide) rfl)
          simpa using this
        subst hj
        unfold v_law f_law_0 f_law_1 f_law_2 f_law_3 f_law_4 f_law_5
        simp (config := {decide := true}) [-List.map_map, U.escA_vs, U.escA_v0, U.gInt, U.gLen, U.gAbs, U.gList, U.gTuple, U.gSub, U.gAdd, U.gAddI, U.gAddN, U.gNeg, U.gLt, U.gLe, U.gGt, U.gGe, U.gIsN, U.isNon, U.gIdx, U.gMod, U.gDiv, U.lmAppend, U.lmExtend, U.lmReverse, U.truD, U.seqD, U.tagOf, U.clsOf, U.isTab, U.gIsi, U.isBox, U.isBo, U.lkB, L2.atI, L2.ixN, e0, e1, e2, e3, eq_ints, p, hi, rk, sm, hxr, e4, e6]
      · have hj : most = 40 := by
          have := hi.symm.trans (show _ = some (Rv.v (D.int 40)) from idx_lst (by decide) rfl)
          simpa using this
        subst hj
        unfold v_law f_law_0 f_law_1 f_law_2 f_law_3 f_law_4 f_law_5
        simp (config := {decide := true}) [-List.map_map, U.escA_vs, U.escA_v0, U.gInt, U.gLen, U.gAbs, U.gList, U.gTuple, U.gSub, U.gAdd, U.gAddI, U.gAddN, U.gNeg, U.gLt, U.gLe, U.gGt, U.gGe, U.gIsN, U.isNon, U.gIdx, U.gMod, U.gDiv, U.lmAppend, U.lmExtend, U.lmReverse, U.truD, U.seqD, U.tagOf, U.clsOf, U.isTab, U.gIsi, U.isBox, U.isBo, U.lkB, L2.atI, L2.ixN, e0, e1, e2, e3, eq_ints, p, hi, rk, sm, hxr, e4, e6]

end Lk60
end part_Q17

section part_Zk60
set_option Elab.async false
set_option linter.all false
set_option maxRecDepth 100000
set_option maxHeartbeats 1000000
open PySem PySem.W PyProof.Rows
set_option maxRecDepth 100000 in
set_option maxHeartbeats 0 in
theorem PySem.Challenge.cw_jumblepost_k60_stores_holds : PySem.Challenge.rw_jumblepost_k60_stores.Holds := by
  w_on; o_law; k_head; (case hw => w_witness2)
  k_fill
  refine U.walk_ofU (l := PySem.Challenge.rw_jumblepost_k60_stores) (k := 7) (x := "_law_script") (fv := Lk60.v_law) rfl rfl ⟨rfl, by decide, by decide⟩ (fun w h Y => PySem.W.kIn_of Y) ?F ?ok
  case ok => exact Lk60.law_ok
  case F =>
    intro w mg fa h KX G hmg
    refine' Lk60.all_mk (l := PySem.Challenge.rw_jumblepost_k60_stores) KX G hmg ?hm_PostError ?hm_BadValue ?hm_Unfit ?hm_Store ?hf_pen ?hf_draw ?hf_pick ?hf_order ?hf_is_number ?hf_Store_init ?hi_Store_init ?hf_Store_put ?hi_Store_put ?hf_put ?hf_run_right ?hf_made_right ?hf_Store_len ?hi_Store_len ?hf_shown ?hf_steps_right ?hf_law ?hl_pen ?hc_pen ?hk_pen ?hl_draw ?hc_draw ?hk_draw ?hl_pick ?hc_pick ?hk_pick ?hl_order ?hc_order ?hk_order ?hl_is_number ?hc_is_number ?hk_is_number ?hT_is_number ?hu_is_number ?hl_Store_init ?hc_Store_init ?hk_Store_init ?hl_Store_put ?hc_Store_put ?hk_Store_put ?hl_put ?hc_put ?hk_put ?hl_run_right ?hc_run_right ?hk_run_right ?hl_made_right ?hc_made_right ?hk_made_right ?hl_Store_len ?hc_Store_len ?hk_Store_len ?hl_shown ?hc_shown ?hk_shown ?hl_steps_right ?hc_steps_right ?hk_steps_right ?hl_law ?hc_law ?hk_law ?pg_Store ?hd_Store ?po_Store ?sa_Store ?ms_Store ?kp_Store ?na_Store_late ?na_Store_held ?na_Store_last ?na_Store_places ?na_BadValue_what ?na_Unfit_place ?hn_list ?hn_int ?hn_len ?hn_abs ?hn_range ?hn_isinstance ?hn_bool ?hn_sorted ?hn_tuple ?hn_enumerate ?hn_repr ?hg_MOST_LATE ?hr_MOST_LATE ?h_super ?h_any ?hf_BadValue_init ?hl_BadValue_init ?hc_BadValue_init ?hd_BadValue_init ?hv_BadValue_init ?hw_BadValue_init ?he_BadValue_init ?hx_BadValue_init ?hf_Unfit_init ?hl_Unfit_init ?hc_Unfit_init ?hd_Unfit_init ?hv_Unfit_init ?hw_Unfit_init ?he_Unfit_init ?hx_Unfit_init ?hf_PostError_init ?hl_PostError_init ?hc_PostError_init ?hd_PostError_init ?hv_PostError_init ?hw_PostError_init ?he_PostError_init ?hx_PostError_init ?h_top ?hO_BadValue ?ho_BadValue ?hs_BadValue ?hb_BadValue ?ht_BadValue ?hq_BadValue ?hy_BadValue ?hmp_BadValue ?hsi_BadValue ?hve_BadValue ?hvt_BadValue ?hms_BadValue ?hss_BadValue ?hO_Unfit ?ho_Unfit ?hs_Unfit ?hb_Unfit ?ht_Unfit ?hq_Unfit ?hy_Unfit ?hmp_Unfit ?hsi_Unfit ?hve_Unfit ?hvt_Unfit ?hms_Unfit ?hss_Unfit ?hyp_post ?hfn_post ?xa_BadValue ?xb_BadValue ?xe_BadValue ?xd_BadValue ?xa_Unfit ?xb_Unfit ?xe_Unfit ?xd_Unfit ?ts_get ?ts_tak ?tc_BadValue ?tm_BadValue ?ik_BadValue_PostError ?ck_PostError_BadValue ?ck_BadValue_BadValue ?ck_Unfit_BadValue ?ck_PostError_Unfit ?ck_BadValue_Unfit ?ck_Unfit_Unfit
    (case hm_PostError => k_is)
    (case hm_BadValue => k_is)
    (case hm_Unfit => k_is)
    (case hm_Store => k_is)
    (case hf_pen => k_is)
    (case hf_draw => k_is)
    (case hf_pick => k_is)
    (case hf_order => k_is)
    (case hf_is_number => k_is)
    (case hf_Store_init => k_is)
    (case hi_Store_init => k_is)
    (case hf_Store_put => k_is)
    (case hi_Store_put => k_is)
    (case hf_put => k_is)
    (case hf_run_right => k_is)
    (case hf_made_right => k_is)
    (case hf_Store_len => k_is)
    (case hi_Store_len => k_is)
    (case hf_shown => k_is)
    (case hf_steps_right => k_is)
    (case hf_law => k_is)
    (case hl_pen => k_is)
    (case hc_pen => k_is)
    (case hk_pen => k_is)
    (case hl_draw => k_is)
    (case hc_draw => k_is)
    (case hk_draw => k_is)
    (case hl_pick => k_is)
    (case hc_pick => k_is)
    (case hk_pick => k_is)
    (case hl_order => k_is)
    (case hc_order => k_is)
    (case hk_order => k_is)
    (case hl_is_number => k_is)
    (case hc_is_number => k_is)
    (case hk_is_number => k_is)
    (case hT_is_number => k_is)
    (case hu_is_number => (repeat (first | exact Paired.nil | refine Paired.cons ?_ ?_ | exact ⟨_, rfl⟩ | exact rfl)))
    (case hl_Store_init => k_is)
    (case hc_Store_init => k_is)
    (case hk_Store_init => k_is)
    (case hl_Store_put => k_is)
    (case hc_Store_put => k_is)
    (case hk_Store_put => k_is)
    (case hl_put => k_is)
    (case hc_put => k_is)
    (case hk_put => k_is)
    (case hl_run_right => k_is)
    (case hc_run_right => k_is)
    (case hk_run_right => k_is)
    (case hl_made_right => k_is)
    (case hc_made_right => k_is)
    (case hk_made_right => k_is)
    (case hl_Store_len => k_is)
    (case hc_Store_len => k_is)
    (case hk_Store_len => k_is)
    (case hl_shown => k_is)
    (case hc_shown => k_is)
    (case hk_shown => k_is)
    (case hl_steps_right => k_is)
    (case hc_steps_right => k_is)
    (case hk_steps_right => k_is)
    (case hl_law => k_is)
    (case hc_law => k_is)
    (case hk_law => k_is)
    (case pg_Store => k_is)
    (case hd_Store => k_is)
    (case po_Store => k_is)
    (case sa_Store => k_is)
    (case ms_Store => k_is)
    (case kp_Store => k_is)
    (case na_Store_late => k_is)
    (case na_Store_held => k_is)
    (case na_Store_last => k_is)
    (case na_Store_places => k_is)
    (case na_BadValue_what => k_is)
    (case na_Unfit_place => k_is)
    (case hn_list => k_is)
    (case hn_int => k_is)
    (case hn_len => k_is)
    (case hn_abs => k_is)
    (case hn_range => k_is)
    (case hn_isinstance => k_is)
    (case hn_bool => k_is)
    (case hn_sorted => k_is)
    (case hn_tuple => k_is)
    (case hn_enumerate => k_is)
    (case hn_repr => k_is)
    (case hg_MOST_LATE => k_is)
    (case hr_MOST_LATE => (first | exact ⟨_, rfl⟩ | exact rfl))
    (case h_super => k_is)
    (case h_any => k_is)
    (case hf_BadValue_init => k_is)
    (case hl_BadValue_init => k_is)
    (case hc_BadValue_init => k_is)
    (case hd_BadValue_init => k_is)
    (case hv_BadValue_init => rfl)
    (case hw_BadValue_init => (first | rfl | decide +kernel))
    (case he_BadValue_init => k_is)
    (case hx_BadValue_init => k_is)
    (case hf_Unfit_init => k_is)
    (case hl_Unfit_init => k_is)
    (case hc_Unfit_init => k_is)
    (case hd_Unfit_init => k_is)
    (case hv_Unfit_init => rfl)
    (case hw_Unfit_init => (first | rfl | decide +kernel))
    (case he_Unfit_init => k_is)
    (case hx_Unfit_init => k_is)
    (case hf_PostError_init => k_is)
    (case hl_PostError_init => k_is)
    (case hc_PostError_init => k_is)
    (case hd_PostError_init => k_is)
    (case hv_PostError_init => rfl)
    (case hw_PostError_init => (first | rfl | decide +kernel))
    (case he_PostError_init => k_is)
    (case hx_PostError_init => k_is)
    (case h_top => (first | rfl | decide +kernel))
    (case hO_BadValue => k_is)
    (case ho_BadValue => exact U.oexO_of rfl rfl)
    (case hs_BadValue => k_is)
    (case hb_BadValue => k_is)
    (case ht_BadValue => k_is)
    (case hq_BadValue => k_is)
    (case hy_BadValue => k_is)
    (case hmp_BadValue => k_is)
    (case hsi_BadValue => ks_is)
    (case hve_BadValue => k_is)
    (case hvt_BadValue => k_is)
    (case hms_BadValue => k_is)
    (case hss_BadValue => ks_is)
    (case hO_Unfit => k_is)
    (case ho_Unfit => exact U.oexO_of rfl rfl)
    (case hs_Unfit => k_is)
    (case hb_Unfit => k_is)
    (case ht_Unfit => k_is)
    (case hq_Unfit => k_is)
    (case hy_Unfit => k_is)
    (case hmp_Unfit => k_is)
    (case hsi_Unfit => ks_is)
    (case hve_Unfit => k_is)
    (case hvt_Unfit => k_is)
    (case hms_Unfit => k_is)
    (case hss_Unfit => ks_is)
    (case hyp_post => k_is)
    (case hfn_post => k_is)
    (case xa_BadValue => k_is)
    (case xb_BadValue => k_is)
    (case xe_BadValue => k_is)
    (case xd_BadValue => k_is)
    (case xa_Unfit => k_is)
    (case xb_Unfit => k_is)
    (case xe_Unfit => k_is)
    (case xd_Unfit => k_is)
    (case ts_get => k_is)
    (case ts_tak => k_is)
    (case tc_BadValue => k_is)
    (case tm_BadValue => k_is)
    (case ik_BadValue_PostError => kit_is)
    (case ck_PostError_BadValue => (first | k_is | kernel_rfl))
    (case ck_BadValue_BadValue => (first | k_is | kernel_rfl))
    (case ck_Unfit_BadValue => (first | k_is | kernel_rfl))
    (case ck_PostError_Unfit => (first | k_is | kernel_rfl))
    (case ck_BadValue_Unfit => (first | k_is | kernel_rfl))
    (case ck_Unfit_Unfit => (first | k_is | kernel_rfl))
end part_Zk60
