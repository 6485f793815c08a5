import PyProof.Rows.All
import Wide.All
import OpenK.AllK
import Wide.FinOn
import HandS.ForMost
import HandS.Exc
import HandS.ExcOwn
import HandS.TryOnly
import HandS.WordsExc
import HandS.CallSlots
import HandS.Walk
import HandS.Defaults
import HandS.IsInst
import HandS.Wide
import HandS.Head0
import HandS.Head1
import HandS.Head2
import HandS.HeadEnd
import HandS.HeadHook1
import HandS.HeadHook2
import HandS.HeadHook4
import HandS.ExcIs
import HandS.RaiseMore
import KE.KStateDown
import HandS.TupLe
import PySem.Challenge.RW_grainhaul_k56_amounts_that_spoil
set_option Elab.async false
set_option linter.all false
set_option maxRecDepth 100000
set_option maxHeartbeats 4000000
/-! GBase: data read off a frozen part of the heap, what a body owns, and what code evaluates to in such words. -/
namespace G
open PySem PySem.Spec PyProof.Rows L2

/-- what stood stands -/
def Ex (H H' : Hp) : Prop := ∀ a o, H a = some o → H' a = some o
theorem Ex.refl (H : Hp) : Ex H H := fun _ _ h => h
theorem Ex.trans {H H1 H2 : Hp} (a : Ex H H1) (b : Ex H1 H2) : Ex H H2 := fun x o h => b x o (a x o h)
theorem Ex.new {H : Hp} {p : Addr} {o : HO} (h : H p = none) : Ex H (upd H p o) := fun a u e => by
  rw [upd_ne (ne_of_none e h)]; exact e
theorem Ex.rd {H H' : Hp} {a : Addr} {u : HO} (e : Ex H H') (h : Rd H a u) : Rd H' a u := by
  rcases h with h | ⟨o, h⟩
  · exact Or.inl (e a _ h)
  · exact Or.inr ⟨o, e a _ h⟩
theorem Ex.l {K : PySem.W.Frag} {H H' : Hp} {a : Addr} {xs : List V} (e : Ex H H') (h : SqL K H a xs) : SqL K H' a xs := by
  rcases h with h | h
  · exact Or.inl (e.rd h)
  · exact Or.inr h
theorem Ex.t {K : PySem.W.Frag} {H H' : Hp} {a : Addr} {xs : List V} (e : Ex H H') (h : SqT K H a xs) : SqT K H' a xs := by
  rcases h with h | h
  · exact Or.inl (e.rd h)
  · exact Or.inr h
theorem Ex.none {H H' : Hp} {p : Addr} (e : Ex H H') (h : H' p = none) : H p = none := by
  cases h1 : H p with
  | none => rfl
  | some o => rw [e p o h1] at h; cases h

/-! ### data -/
/-- a key as data -/
def kD : Key → PyData
  | .inl i => .int i
  | .inr x => .str x
def kDs (k : List Key) : PyData := .tuple (k.map kD)
mutual
/-- the value v reads as the data d, off the heap F -/
inductive Rp (K : PySem.W.Frag) (F : Hp) : V → PyData → Prop
  | non : Rp K F .non .none
  | bl (b : Bool) : Rp K F (.bl b) (.bool b)
  | int (i : Int) : Rp K F (.int i) (.int i)
  | str (x : Str) : Rp K F (.str x) (.str x)
  | lst {a : Addr} {xs : List V} {ds : List PyData} : SqL K F a xs → RpA K F xs ds → Rp K F (.ref a) (.list ds)
  | tup {a : Addr} {xs : List V} {ds : List PyData} : SqT K F a xs → RpA K F xs ds → Rp K F (.ref a) (.tuple ds)
  | dK {a : Addr} {kvs : List (Key × V)} {ds : List PyData} : Rd F a (.dK kvs) → RpA K F (kvs.map (·.2)) ds → Rp K F (.ref a) (.dict ((kvs.map fun p => kD p.1).zip ds))
  | dT {a : Addr} {kvs : List (List Key × V)} {ds : List PyData} : Rd F a (.dT kvs) → kvs ≠ [] → RpA K F (kvs.map (·.2)) ds → Rp K F (.ref a) (.dict ((kvs.map fun p => kDs p.1).zip ds))
inductive RpA (K : PySem.W.Frag) (F : Hp) : List V → List PyData → Prop
  | nil : RpA K F [] []
  | cons {v : V} {vs : List V} {d : PyData} {ds : List PyData} : Rp K F v d → RpA K F vs ds → RpA K F (v :: vs) (d :: ds)
end
section
variable {K : PySem.W.Frag} {F F' : Hp}
mutual
theorem Rp.mono (e : Ex F F') : ∀ {v : V} {d : PyData}, Rp K F v d → Rp K F' v d
  | _, _, .non => .non
  | _, _, .bl b => .bl b
  | _, _, .int b => .int b
  | _, _, .str b => .str b
  | _, _, .lst h r => .lst (e.l h) (RpA.mono e r)
  | _, _, .tup h r => .tup (e.t h) (RpA.mono e r)
  | _, _, .dK h r => .dK (e.rd h) (RpA.mono e r)
  | _, _, .dT h n r => .dT (e.rd h) n (RpA.mono e r)
theorem RpA.mono (e : Ex F F') : ∀ {vs : List V} {ds : List PyData}, RpA K F vs ds → RpA K F' vs ds
  | _, _, .nil => .nil
  | _, _, .cons h r => .cons (Rp.mono e h) (RpA.mono e r)
end
theorem RpA.length : ∀ {vs : List V} {ds : List PyData}, RpA K F vs ds → vs.length = ds.length
  | _, _, .nil => rfl
  | _, _, .cons _ r => by rw [List.length_cons, List.length_cons, RpA.length r]
theorem RpA.get : ∀ {vs : List V} {ds : List PyData} {i : Nat} {d : PyData}, RpA K F vs ds → ds[i]? = some d → ∃ v, vs[i]? = some v ∧ Rp K F v d
  | _, _, _, _, .nil, e => by simp at e
  | _, _, 0, _, .cons h _, e => by simp at e; subst e; exact ⟨_, rfl, h⟩
  | _, _, i + 1, d, .cons _ r, e => by
    obtain ⟨v, a, b⟩ := RpA.get (i := i) (d := d) r (by simpa using e)
    exact ⟨v, by simpa using a, b⟩
theorem RpA.getV : ∀ {vs : List V} {ds : List PyData} {i : Nat} {v : V}, RpA K F vs ds → vs[i]? = some v → ∃ d, ds[i]? = some d ∧ Rp K F v d
  | _, _, _, _, .nil, e => by simp at e
  | _, _, 0, _, .cons h _, e => by simp at e; subst e; exact ⟨_, rfl, h⟩
  | _, _, i + 1, d, .cons _ r, e => by
    obtain ⟨v, a, b⟩ := RpA.getV (i := i) (v := d) r (by simpa using e)
    exact ⟨v, by simpa using a, b⟩
theorem RpA.append : ∀ {vs ws : List V} {ds es : List PyData}, RpA K F vs ds → RpA K F ws es → RpA K F (vs ++ ws) (ds ++ es)
  | _, _, _, _, .nil, s => s
  | _, _, _, _, .cons h r, s => .cons h (RpA.append r s)
theorem RpA.take : ∀ {vs : List V} {ds : List PyData} (n : Nat), RpA K F vs ds → RpA K F (vs.take n) (ds.take n)
  | _, _, 0, _ => .nil
  | _, _, _ + 1, .nil => .nil
  | _, _, n + 1, .cons h r => .cons h (RpA.take n r)
theorem RpA.drop : ∀ {vs : List V} {ds : List PyData} (n : Nat), RpA K F vs ds → RpA K F (vs.drop n) (ds.drop n)
  | _, _, 0, r => r
  | _, _, _ + 1, .nil => .nil
  | _, _, n + 1, .cons _ r => RpA.drop n r
theorem RpA.set : ∀ {vs : List V} {ds : List PyData} (i : Nat) {v : V} {d : PyData}, RpA K F vs ds → Rp K F v d → RpA K F (vs.set i v) (ds.set i d)
  | _, _, _, _, _, .nil, _ => .nil
  | _, _, 0, _, _, .cons _ r, x => .cons x r
  | _, _, i + 1, _, _, .cons h r, x => .cons h (RpA.set i r x)
theorem RpA.reverse : ∀ {vs : List V} {ds : List PyData}, RpA K F vs ds → RpA K F vs.reverse ds.reverse
  | _, _, .nil => .nil
  | _, _, .cons h r => by rw [List.reverse_cons, List.reverse_cons]; exact RpA.append (RpA.reverse r) (.cons h .nil)
theorem RpA.ints : ∀ (ns : List Int), RpA K F (ns.map V.int) (ns.map PyData.int)
  | [] => .nil
  | n :: ns => .cons (.int n) (RpA.ints ns)
theorem RpA.ints_inv : ∀ {vs : List V} {ns : List Int}, RpA K F vs (ns.map PyData.int) → vs = ns.map V.int
  | _, [], h => by cases h; rfl
  | _, n :: ns, h => by
    rw [List.map_cons] at h
    cases h with
    | cons a b => cases a; rw [RpA.ints_inv b]; rfl
theorem RpA.bls_inv : ∀ {vs : List V} {ns : List Bool}, RpA K F vs (ns.map PyData.bool) → vs = ns.map V.bl
  | _, [], h => by cases h; rfl
  | _, n :: ns, h => by
    rw [List.map_cons] at h
    cases h with
    | cons a b => cases a; rw [RpA.bls_inv b]; rfl
theorem RpA.strs_inv : ∀ {vs : List V} {ns : List Str}, RpA K F vs (ns.map PyData.str) → vs = ns.map V.str
  | _, [], h => by cases h; rfl
  | _, n :: ns, h => by
    rw [List.map_cons] at h
    cases h with
    | cons a b => cases a; rw [RpA.strs_inv b]; rfl
end

/-! ### what a slot holds -/
/-- what stands at an address that is the body's own: a list, a dict (keys ints and texts; tuples of them) -/
inductive Ct where
  | l (xs : List PyData)
  | d (kvs : List (Key × PyData))
  | t (kvs : List (List Key × PyData))
/-- un: nothing is said; d: data; v: just this value; o: an object of the body's own (its address, if it is told) -/
inductive Sl where
  | un
  | d (x : PyData)
  | v (x : V)
  | o (p : Option Addr) (c : Ct)
abbrev En := List Sl
abbrev Sl.ol (xs : List PyData) : Sl := .o none (.l xs)
abbrev Sl.od (kvs : List (Key × PyData)) : Sl := .o none (.d kvs)
abbrev Sl.ot (kvs : List (List Key × PyData)) : Sl := .o none (.t kvs)

def KvA {κ : Type} (K : PySem.W.Frag) (F : Hp) (kvs : List (κ × V)) (ds : List (κ × PyData)) : Prop := kvs.map (·.1) = ds.map (·.1) ∧ RpA K F (kvs.map (·.2)) (ds.map (·.2))
theorem KvA.mono {κ : Type} {K : PySem.W.Frag} {F F' : Hp} {kvs : List (κ × V)} {ds : List (κ × PyData)} (e : Ex F F') (h : KvA K F kvs ds) : KvA K F' kvs ds := ⟨h.1, h.2.mono e⟩

/-- what stands at an owned address -/
def Own1 (K : PySem.W.Frag) (F H : Hp) (l : Addr) : Ct → Prop
  | .l xs => ∃ vs, H l = some (.lst vs) ∧ RpA K F vs xs
  | .d ds => ∃ kvs, H l = some (.dK kvs) ∧ KvA K F kvs ds
  | .t ds => ∃ kvs, H l = some (.dT kvs) ∧ KvA K F kvs ds
def SlOk (K : PySem.W.Frag) (F H : Hp) (o : Option V) (s : Sl) : Prop :=
  match s with
  | .un => True
  | .d x => ∃ v, o = some v ∧ Rp K F v x
  | .v x => o = some x
  | .o p c => ∃ l, o = some (.ref l) ∧ (p = none ∨ p = some l) ∧ Own1 K F H l c
def Sl.isOwn : Sl → Bool
  | .o _ _ => true
  | _ => false
/-- the addresses that a slot owns -/
def Owns (σ : L2.St) (ρ : En) (i : Nat) (a : Addr) : Prop := σ[i]? = some (some (.ref a)) ∧ ∃ s, ρ[i]? = some s ∧ s.isOwn = true

/-- the entry: the frozen heap, the heap, what may be changed of it -/
structure Cn where
  F0 : Hp
  H0 : Hp
  M : List Addr
/-- what holds of F and H through the body -/
structure Fr (C : Cn) (F H : Hp) : Prop where
  ext : Ex F H
  f0 : Ex C.F0 F
  h0 : ∀ a o, C.H0 a = some o → a ∉ C.M → H a = some o
  there : ∀ a, H a = none → C.H0 a = none
  new : ∀ a, C.H0 a ≠ none → C.F0 a = none → F a = none
  mM : ∀ a ∈ C.M, C.H0 a ≠ none
structure SE (K : PySem.W.Frag) (C : Cn) (F H : Hp) (σ : L2.St) (ρ : En) : Prop where
  fr : Fr C F H
  len : σ.length = ρ.length
  ok : ∀ (i : Nat) (s : Sl), ρ[i]? = some s → SlOk K F H (σ[i]?.join) s
  sep : ∀ (i j : Nat) (a : Addr), Owns σ ρ i a → Owns σ ρ j a → i = j
  own : ∀ (i : Nat) (a : Addr), Owns σ ρ i a → F a = none ∧ H a ≠ none ∧ (C.H0 a = none ∨ a ∈ C.M)
  fresh : ∀ (i : Nat) (a : Addr) (c : Ct), ρ[i]? = some (.o none c) → σ[i]? = some (some (.ref a)) → C.H0 a = none

/-! ### growth -/
/-- F and H grow by new objects -/
structure Gr (F H F' H' : Hp) : Prop where
  f : Ex F F'
  h : Ex H H'
  fh : Ex F' H'
  new : ∀ a, H a ≠ none → F a = none → F' a = none
theorem Gr.refl {F H : Hp} (e : Ex F H) : Gr F H F H := ⟨.refl _, .refl _, e, fun _ _ h => h⟩
theorem Gr.trans {F H F1 H1 F2 H2 : Hp} (a : Gr F H F1 H1) (b : Gr F1 H1 F2 H2) : Gr F H F2 H2 :=
  ⟨a.f.trans b.f, a.h.trans b.h, b.fh, fun x hx fx => b.new x (fun z => hx (a.h.none z)) (a.new x hx fx)⟩
theorem ne_none {H : Hp} {a : Addr} {o : HO} (h : H a = some o) : H a ≠ none := by rw [h]; exact fun z => nomatch z
theorem some_of {H : Hp} {a : Addr} (h : H a ≠ none) : ∃ o, H a = some o := by
  cases e : H a with
  | none => exact absurd e h
  | some o => exact ⟨o, rfl⟩
theorem ex_upd {F H : Hp} {p : Addr} {o : HO} (e : Ex F H) : Ex (upd F p o) (upd H p o) := fun a u h => by
  by_cases q : a = p
  · rw [q, upd_same] at h ⊢; exact h
  · rw [upd_ne q] at h ⊢; exact e a u h
/-- a new frozen object -/
theorem Gr.push {F H : Hp} {p : Addr} {o : HO} (e : Ex F H) (hp : H p = none) : Gr F H (upd F p o) (upd H p o) :=
  ⟨.new (e.none hp), .new hp, ex_upd e, fun a ha fa => by rw [upd_ne (fun z => ha (by rw [z]; exact hp))]; exact fa⟩
/-- a new object, not frozen -/
theorem Gr.side {F H : Hp} {p : Addr} {o : HO} (e : Ex F H) (hp : H p = none) : Gr F H F (upd H p o) :=
  ⟨.refl _, .new hp, e.trans (.new hp), fun _ _ h => h⟩
section
variable {K : PySem.W.Frag} {C : Cn} {F H F' H' : Hp} {σ : L2.St} {ρ : En}
theorem Fr.grow (f : Fr C F H) (g : Gr F H F' H') : Fr C F' H' :=
  ⟨g.fh, f.f0.trans g.f, fun a o h m => g.h a o (f.h0 a o h m), fun a h => f.there a (g.h.none h), fun a h z => g.new a (fun q => h (f.there a q)) (f.new a h z), f.mM⟩
theorem Own1.grow {l : Addr} {s : Ct} (x : Ex F F') (h2 : ∀ o, H l = some o → H' l = some o) (h : Own1 K F H l s) : Own1 K F' H' l s := by
  cases s with
  | l xs => obtain ⟨vs, a, b⟩ := h; exact ⟨vs, h2 _ a, b.mono x⟩
  | d xs => obtain ⟨vs, a, b⟩ := h; exact ⟨vs, h2 _ a, b.mono x⟩
  | t xs => obtain ⟨vs, a, b⟩ := h; exact ⟨vs, h2 _ a, b.mono x⟩
theorem Own1.some {l : Addr} {s : Ct} (h : Own1 K F H l s) : H l ≠ none := by
  cases s with
  | l xs => obtain ⟨vs, a, b⟩ := h; exact ne_none a
  | d xs => obtain ⟨vs, a, b⟩ := h; exact ne_none a
  | t xs => obtain ⟨vs, a, b⟩ := h; exact ne_none a
theorem SlOk.grow {o : Option V} {s : Sl} (x : Ex F F') (h2 : ∀ l u, o = .some (.ref l) → s.isOwn = true → H l = .some u → H' l = .some u) (h : SlOk K F H o s) : SlOk K F' H' o s := by
  cases s with
  | un => exact h
  | d x' => obtain ⟨v, a, b⟩ := h; exact ⟨v, a, b.mono x⟩
  | v x' => exact h
  | o p c => obtain ⟨l, a, p', b⟩ := h; exact ⟨l, a, p', b.grow x (fun u => h2 l u a rfl)⟩
theorem SE.grow (e : SE K C F H σ ρ) (g : Gr F H F' H') : SE K C F' H' σ ρ :=
  ⟨e.fr.grow g, e.len, fun i s h => (e.ok i s h).grow g.f (fun _ _ _ _ q => g.h _ _ q), e.sep, fun i a h => by
    obtain ⟨x, y, z⟩ := e.own i a h
    exact ⟨g.new a y x, fun q => y (g.h.none q), z⟩, e.fresh⟩

/-! ### slots read and set -/
theorem set_at {α : Type} {l : List α} {i : Nat} {x y : α} (h : (l.set i x)[i]? = some y) : x = y ∧ i < l.length := by
  rw [List.getElem?_set, if_pos rfl] at h
  split at h
  · rename_i q; exact ⟨Option.some.inj h, q⟩
  · cases h
theorem join_some {α : Type} {x : Option (Option α)} {v : α} (h : x.join = some v) : x = some (some v) := by
  cases x with
  | none => cases h
  | some o => exact congrArg some h
theorem SE.get (e : SE K C F H σ ρ) {i : Nat} {x : PyData} (h : ρ[i]? = some (.d x)) : ∃ v, σ[i]? = some (some v) ∧ Rp K F v x := by
  obtain ⟨v, a, b⟩ := e.ok i _ h
  exact ⟨v, join_some a, b⟩
theorem SE.getO (e : SE K C F H σ ρ) {i : Nat} {p : Option Addr} {c : Ct} (h : ρ[i]? = some (.o p c)) : ∃ l, σ[i]? = some (some (.ref l)) ∧ (p = none ∨ p = some l) ∧ Own1 K F H l c ∧ Owns σ ρ i l := by
  obtain ⟨l, a, b, d⟩ := e.ok i _ h
  exact ⟨l, join_some a, b, d, join_some a, _, h, rfl⟩
theorem own_set {i j : Nat} {o : Option V} {s : Sl} {a : Addr} (h : Owns (σ.set i o) (ρ.set i s) j a) : (j = i ∧ o = some (.ref a) ∧ s.isOwn = true) ∨ (j ≠ i ∧ Owns σ ρ j a) := by
  obtain ⟨h1, t, h2, h3⟩ := h
  by_cases q : j = i
  · subst q
    exact .inl ⟨rfl, (set_at h1).1, by rw [(set_at h2).1]; exact h3⟩
  · rw [List.getElem?_set_ne (Ne.symm q)] at h1 h2
    exact .inr ⟨q, h1, t, h2, h3⟩
theorem SE.set (e : SE K C F H σ ρ) {i : Nat} {v : V} {s : Sl} (h : SlOk K F H (some v) s) (hn : s.isOwn = true → ∀ a, v = .ref a → F a = none ∧ H a ≠ none ∧ (C.H0 a = none ∨ a ∈ C.M) ∧ (∀ j, j ≠ i → ¬ Owns σ ρ j a) ∧ (∀ c, s = .o none c → C.H0 a = none)) : SE K C F H (σ.set i (some v)) (ρ.set i s) := by
  refine ⟨e.fr, by rw [List.length_set, List.length_set, e.len], fun j t ht => ?_, fun j k a hj hk => ?_, fun j a hj => ?_, fun j a c h1 h2 => ?_⟩
  · by_cases q : j = i
    · subst q
      obtain ⟨rfl, hj⟩ := set_at ht
      rw [List.getElem?_set, if_pos rfl, if_pos (by rw [e.len]; exact hj)]
      exact h
    · rw [List.getElem?_set_ne (Ne.symm q)] at ht ⊢
      exact e.ok j t ht
  · rcases own_set hj with ⟨rfl, o1, s1⟩ | ⟨n1, o1⟩ <;> rcases own_set hk with ⟨rfl, o2, s2⟩ | ⟨n2, o2⟩
    · rfl
    · exact absurd o2 ((hn s1 a (Option.some.inj o1)).2.2.2.1 k n2)
    · exact absurd o1 ((hn s2 a (Option.some.inj o2)).2.2.2.1 j n1)
    · exact e.sep j k a o1 o2
  · rcases own_set hj with ⟨rfl, o1, s1⟩ | ⟨n1, o1⟩
    · exact ⟨(hn s1 a (Option.some.inj o1)).1, (hn s1 a (Option.some.inj o1)).2.1, (hn s1 a (Option.some.inj o1)).2.2.1⟩
    · exact e.own j a o1
  · by_cases q : j = i
    · subst q
      obtain ⟨q1, _⟩ := set_at h1
      obtain ⟨q2, _⟩ := set_at h2
      exact (hn (by rw [q1]; rfl) a (Option.some.inj q2)).2.2.2.2 c q1
    · rw [List.getElem?_set_ne (Ne.symm q)] at h1 h2
      exact e.fresh j a c h1 h2
theorem SE.setD (e : SE K C F H σ ρ) {i : Nat} {v : V} {x : PyData} (h : Rp K F v x) : SE K C F H (σ.set i (some v)) (ρ.set i (.d x)) :=
  e.set ⟨v, rfl, h⟩ fun z => nomatch z
theorem SE.setU (e : SE K C F H σ ρ) {i : Nat} {v : V} : SE K C F H (σ.set i (some v)) (ρ.set i .un) := e.set trivial fun z => nomatch z
/-- a name is given a new object -/
theorem SE.setOwn (e : SE K C F H σ ρ) {i : Nat} {c : Ct} {p : Addr} (fp : F p = none) (h0 : C.H0 p = none) (no : ∀ j, ¬ Owns σ ρ j p) (h : Own1 K F H p c) : SE K C F H (σ.set i (some (.ref p))) (ρ.set i (.o none c)) :=
  e.set ⟨p, rfl, .inl rfl, h⟩ fun _ a q => by
    cases q
    exact ⟨fp, h.some, .inl h0, fun j _ o => no j o, fun _ _ => h0⟩
theorem slot_own {s : Sl} {j : Nat} {b : Addr} (h : ρ[j]? = some s) (o : s.isOwn = true) (c : σ[j]? = some (some (.ref b))) : Owns σ ρ j b := ⟨c, s, h, o⟩
/-- an owned object has changed -/
theorem SE.wr (e : SE K C F H σ ρ) {i : Nat} {l : Addr} {p : Option Addr} {c c' : Ct} {o : HO} (hi : ρ[i]? = some (.o p c)) (hl : σ[i]? = some (some (.ref l))) (h : Own1 K F (L2.upd H l o) l c') : SE K C F (L2.upd H l o) σ (ρ.set i (.o p c')) := by
  have ow : Owns σ ρ i l := ⟨hl, _, hi, rfl⟩
  obtain ⟨w1, w2, w3⟩ := e.own i l ow
  have hp : p = none ∨ p = some l := by
    obtain ⟨l', a, b, _⟩ := e.getO hi
    rw [hl] at a
    cases a
    exact b
  have eF : Ex F (L2.upd H l o) := fun a u hu => by
    have na : a ≠ l := fun z => by rw [z, w1] at hu; cases hu
    rw [upd_ne na]; exact e.fr.ext a u hu
  have conv : ∀ j a, Owns σ (ρ.set i (.o p c')) j a → Owns σ ρ j a := fun j a hj => by
    obtain ⟨h1, t, h2, h3⟩ := hj
    by_cases q : j = i
    · subst q
      rw [hl] at h1
      cases h1
      exact ow
    · rw [List.getElem?_set_ne (Ne.symm q)] at h2
      exact ⟨h1, t, h2, h3⟩
  refine ⟨⟨eF, e.fr.f0, fun a u hu m => ?_, fun a ha => ?_, e.fr.new, e.fr.mM⟩, by rw [List.length_set]; exact e.len, fun j t ht => ?_, fun j k a hj hk => e.sep j k a (conv j a hj) (conv k a hk), fun j a hj => ?_, fun j a d h1 h2 => ?_⟩
  · by_cases q : a = l
    · subst q
      rcases w3 with z | z
      · rw [z] at hu; cases hu
      · exact absurd z m
    · rw [upd_ne q]; exact e.fr.h0 a u hu m
  · by_cases q : a = l
    · subst q; rw [upd_same] at ha; cases ha
    · rw [upd_ne q] at ha; exact e.fr.there a ha
  · by_cases q : j = i
    · subst q
      obtain ⟨rfl, _⟩ := set_at ht
      rw [hl]
      exact ⟨l, rfl, hp, h⟩
    · rw [List.getElem?_set_ne (Ne.symm q)] at ht
      refine (e.ok j t ht).grow (.refl _) fun b u hb ot hu => ?_
      rw [upd_ne (fun nb => q (by subst nb; exact e.sep j i b (slot_own ht ot (join_some hb)) ow))]
      exact hu
  · obtain ⟨x1, x2, x3⟩ := e.own j a (conv j a hj)
    refine ⟨x1, ?_, x3⟩
    by_cases q : a = l
    · subst q; rw [upd_same]; exact fun z => nomatch z
    · rw [upd_ne q]; exact x2
  · by_cases q : j = i
    · subst q
      obtain ⟨q1, _⟩ := set_at h1
      cases q1
      exact e.fresh j a c hi h2
    · rw [List.getElem?_set_ne (Ne.symm q)] at h1
      exact e.fresh j a d h1 h2
/-- an object that nothing owns is frozen -/
theorem SE.frz (e : SE K C F H σ ρ) {p : Addr} {o : HO} (fp : F p = none) (hp : H p = some o) (h0 : C.H0 p = none) (no : ∀ j, ¬ Owns σ ρ j p) : SE K C (L2.upd F p o) H σ ρ := by
  have ex : Ex F (L2.upd F p o) := .new fp
  refine ⟨⟨fun a u h => ?_, e.fr.f0.trans ex, e.fr.h0, e.fr.there, fun a h z => ?_, e.fr.mM⟩, e.len, fun i s hs => (e.ok i s hs).grow ex (fun _ _ _ _ q => q), e.sep, fun i a ha => ?_, ?_⟩
  · by_cases q : a = p
    · rw [q, upd_same] at h; rw [q, hp]; exact h
    · rw [upd_ne q] at h; exact e.fr.ext a u h
  · rw [upd_ne (fun q => h (by rw [q]; exact h0))]; exact e.fr.new a h z
  · obtain ⟨x, y, z⟩ := e.own i a ha
    exact ⟨by rw [upd_ne (fun q => no i (by rw [← q]; exact ha))]; exact x, y, z⟩
  · exact e.fresh
theorem not_owns_new (e : SE K C F H σ ρ) {p : Addr} (hp : H p = none) : ∀ j, ¬ Owns σ ρ j p := fun j o => (e.own j p o).2.1 hp
/-- an object that a name owned (a new one) becomes data -/
theorem SE.thaw (e : SE K C F H σ ρ) {i : Nat} {l : Addr} {c : Ct} {o : HO} {x : PyData} (hi : ρ[i]? = some (.o none c)) (hl : σ[i]? = some (some (.ref l))) (ho : H l = some o) (hx : Rp K (L2.upd F l o) (.ref l) x) : SE K C (L2.upd F l o) H σ (ρ.set i (.d x)) := by
  have ow : Owns σ ρ i l := ⟨hl, _, hi, rfl⟩
  have hn : C.H0 l = none := e.fresh i l c hi hl
  obtain ⟨w1, w2, w3⟩ := e.own i l ow
  have conv : ∀ j a, Owns σ (ρ.set i (.d x)) j a → j ≠ i ∧ Owns σ ρ j a := fun j a hj => by
    obtain ⟨h1, t, h2, h3⟩ := hj
    by_cases q : j = i
    · subst q
      obtain ⟨rfl, _⟩ := set_at h2
      cases h3
    · rw [List.getElem?_set_ne (Ne.symm q)] at h2
      exact ⟨q, h1, t, h2, h3⟩
  have ex : Ex F (L2.upd F l o) := .new w1
  refine ⟨⟨fun a u h => ?_, e.fr.f0.trans ex, e.fr.h0, e.fr.there, fun a h z => ?_, e.fr.mM⟩, by rw [List.length_set]; exact e.len, fun j t ht => ?_, fun j k a hj hk => e.sep j k a (conv j a hj).2 (conv k a hk).2, fun j a hj => ?_, fun j a d h1 h2 => ?_⟩
  · by_cases q : a = l
    · rw [q, upd_same] at h; rw [q, ho]; exact h
    · rw [upd_ne q] at h; exact e.fr.ext a u h
  · rw [upd_ne (fun q => h (by rw [q]; exact hn))]; exact e.fr.new a h z
  · by_cases q : j = i
    · subst q
      obtain ⟨rfl, _⟩ := set_at ht
      rw [hl]
      exact ⟨_, rfl, hx⟩
    · rw [List.getElem?_set_ne (Ne.symm q)] at ht
      exact (e.ok j t ht).grow ex (fun _ _ _ _ z => z)
  · obtain ⟨q, oj⟩ := conv j a hj
    obtain ⟨x1, x2, x3⟩ := e.own j a oj
    exact ⟨by rw [upd_ne (fun z => q (by subst z; exact e.sep j i a oj ow))]; exact x1, x2, x3⟩
  · by_cases q : j = i
    · subst q
      obtain ⟨q1, _⟩ := set_at h1
      cases q1
    · rw [List.getElem?_set_ne (Ne.symm q)] at h1
      exact e.fresh j a d h1 h2

/-! ### less said -/
inductive Le : En → En → Prop
  | nil : Le [] []
  | un {s : Sl} {ρ ρ' : En} : Le ρ ρ' → Le (.un :: ρ) (s :: ρ')
  | eq {s : Sl} {ρ ρ' : En} : Le ρ ρ' → Le (s :: ρ) (s :: ρ')
theorem Le.refl : ∀ ρ : En, Le ρ ρ
  | [] => .nil
  | _ :: ρ => .eq (Le.refl ρ)
theorem Le.len : ∀ {ρ ρ' : En}, Le ρ ρ' → ρ.length = ρ'.length
  | _, _, .nil => rfl
  | _, _, .un h => by rw [List.length_cons, List.length_cons, Le.len h]
  | _, _, .eq h => by rw [List.length_cons, List.length_cons, Le.len h]
theorem Le.get : ∀ {ρ ρ' : En} {i : Nat} {s : Sl}, Le ρ ρ' → ρ[i]? = some s → s = .un ∨ ρ'[i]? = some s
  | _, _, _, _, .nil, h => by simp at h
  | _, _, 0, s, .un _, h => by simp at h; exact .inl h.symm
  | _, _, 0, s, .eq _, h => by simp at h; subst h; exact .inr rfl
  | _, _, i + 1, s, .un r, h => by
    have := Le.get (i := i) (s := s) r (by simpa using h)
    simpa using this
  | _, _, i + 1, s, .eq r, h => by
    have := Le.get (i := i) (s := s) r (by simpa using h)
    simpa using this
theorem SE.le {ρ' : En} (e : SE K C F H σ ρ) (h : Le ρ' ρ) : SE K C F H σ ρ' := by
  have conv : ∀ j a, Owns σ ρ' j a → Owns σ ρ j a := fun j a ⟨h1, t, h2, h3⟩ => by
    rcases h.get h2 with z | z
    · subst z; cases h3
    · exact ⟨h1, t, z, h3⟩
  refine ⟨e.fr, e.len.trans h.len.symm, fun i s hs => ?_, fun j k a hj hk => e.sep j k a (conv j a hj) (conv k a hk), fun j a hj => e.own j a (conv j a hj), fun j a c h1 h2 => ?_⟩
  · rcases h.get hs with z | z
    · subst z; trivial
    · exact e.ok i s z
  · rcases h.get h1 with z | z
    · cases z
    · exact e.fresh j a c z h2
/-- σ forgotten where nothing is said -/
theorem SE.sub {σ' : L2.St} (e : SE K C F H σ ρ) (hl : σ'.length = σ.length) (h : ∀ (i : Nat) (s : Sl), ρ[i]? = some s → s ≠ Sl.un → σ'[i]? = σ[i]?) : SE K C F H σ' ρ := by
  have conv : ∀ j a, Owns σ' ρ j a → Owns σ ρ j a := fun j a ⟨h1, t, h2, h3⟩ => ⟨by rw [← h j t h2 (fun z => by subst z; cases h3)]; exact h1, t, h2, h3⟩
  refine ⟨e.fr, hl.trans e.len, fun i s hs => ?_, fun j k a hj hk => e.sep j k a (conv j a hj) (conv k a hk), fun j a hj => e.own j a (conv j a hj), fun j a c h1 h2 => e.fresh j a c h1 (by rw [← h j _ h1 (fun z => nomatch z)]; exact h2)⟩
  by_cases q : s = .un
  · subst q; trivial
  · rw [h i s hs q]; exact e.ok i s hs
/-- another entry -/
theorem SE.rebase (e : SE K C F H σ ρ) : SE K ⟨F, C.H0, C.M⟩ F H σ ρ := ⟨⟨e.fr.ext, .refl _, e.fr.h0, e.fr.there, fun _ _ z => z, e.fr.mM⟩, e.len, e.ok, e.sep, e.own, e.fresh⟩
theorem SE.unbase {F1 H1 : Hp} (f : Fr C F1 H1) (e : SE K ⟨F1, C.H0, C.M⟩ F H σ ρ) : SE K C F H σ ρ :=
  ⟨⟨e.fr.ext, f.f0.trans e.fr.f0, e.fr.h0, e.fr.there, fun a h z => e.fr.new a h (f.new a h z), e.fr.mM⟩, e.len, e.ok, e.sep, e.own, e.fresh⟩
end
end G

/-! GExpr: expressions and tests in words of data. -/
namespace G
open PySem PySem.Spec PyProof.Rows L2

section
variable {X : Cx}
theorem PE_imp {e : Expr} {t t' : TE} (h : PE X e t) (i : ∀ σ H Q, t' σ H Q → t σ H Q) : PE X e t' := ⟨fun pins s σ H Q I q => h.run pins s σ H Q I (i _ _ _ q)⟩
theorem PT_imp {e : Expr} {t t' : TT} (h : PT X e t) (i : ∀ σ H Q, t' σ H Q → t σ H Q) : PT X e t' := ⟨fun pins s σ H Q I q => h.run pins s σ H Q I (i _ _ _ q)⟩
theorem PW_imp {e : Expr} {t t' : TT} (h : PW X e t) (i : ∀ σ H Q, t' σ H Q → t σ H Q) : PW X e t' := ⟨fun wh pins s σ H Q I q => h.run wh pins s σ H Q I (i _ _ _ q)⟩
theorem PA_imp {e : List Expr} {t t' : TA} (h : PA X e t) (i : ∀ σ H Q, t' σ H Q → t σ H Q) : PA X e t' := ⟨fun pos pins s σ H Q I q => h.run pos pins s σ H Q I (i _ _ _ q)⟩
theorem PS_imp {e : Stmt} {t t' : TS} (h : PS X e t) (i : ∀ D σ H, t' D σ H → t D σ H) : PS X e t' := ⟨fun pins s σ H Q I q => h.run pins s σ H Q I (i _ _ _ q)⟩
theorem PSs_imp {e : List Stmt} {t t' : TS} (h : PSs X e t) (i : ∀ D σ H, t' D σ H → t D σ H) : PSs X e t' := ⟨fun pins s σ H Q I q => h.run pins s σ H Q I (i _ _ _ q)⟩
theorem PE_ex {ι : Type} {e : Expr} {t : ι → TE} (h : ∀ i, PE X e (t i)) : PE X e (fun σ H Q => ∃ i, t i σ H Q) := ⟨fun pins s σ H Q I ⟨i, q⟩ => (h i).run pins s σ H Q I q⟩
theorem PT_ex {ι : Type} {e : Expr} {t : ι → TT} (h : ∀ i, PT X e (t i)) : PT X e (fun σ H Q => ∃ i, t i σ H Q) := ⟨fun pins s σ H Q I ⟨i, q⟩ => (h i).run pins s σ H Q I q⟩
theorem PTs_ex {ι : Type} {e : List Expr} {t : ι → TT} (h : ∀ i, PTs X e (t i)) : PTs X e (fun σ H Q => ∃ i, t i σ H Q) := ⟨fun pins s σ H Q I ⟨i, q⟩ => (h i).run pins s σ H Q I q⟩
theorem PSs_ex {ι : Type} {e : List Stmt} {t : ι → TS} (h : ∀ i, PSs X e (t i)) : PSs X e (fun D σ H => ∃ i, t i D σ H) := ⟨fun pins s σ H D I ⟨i, q⟩ => (h i).run pins s σ H D I q⟩
end

/-! ### readings -/
/-- data x comes, the slots are then ρ' -/
def tP (K : PySem.W.Frag) (ρ : En) (x : PyData) (ρ' : En) : TE := fun σ H Q => ∃ C F, SE K C F H σ ρ ∧ ∀ v F' H', Ex F F' → SE K C F' H' σ ρ' → Rp K F' v x → Q v H'
/-- a new object comes -/
def tN (K : PySem.W.Frag) (ρ : En) (s : Ct) (ρ' : En) : TE := fun σ H Q => ∃ C F, SE K C F H σ ρ ∧ ∀ p F' H', Ex F F' → SE K C F' H' σ ρ' → F' p = none → C.H0 p = none → (∀ j, ¬ Owns σ ρ' j p) → Own1 K F' H' p s → Q (.ref p) H'
/-- a list comes: data, or the one that the slot owns -/
def SrcV (K : PySem.W.Frag) (F : Hp) (σ : L2.St) (src : Option Nat) (v : V) (xs : List PyData) : Prop :=
  match src with
  | none => ∃ a vs, v = .ref a ∧ SqL K F a vs ∧ RpA K F vs xs
  | some i => ∃ a, v = .ref a ∧ σ[i]? = some (some (.ref a))
def SrcOk (ρ : En) (src : Option Nat) (xs : List PyData) : Prop :=
  match src with
  | none => True
  | some i => ∃ p, ρ[i]? = some (.o p (.l xs))
def tQ (K : PySem.W.Frag) (ρ : En) (src : Option Nat) (xs : List PyData) (ρ' : En) : TE := fun σ H Q => ∃ C F, SE K C F H σ ρ ∧ ∀ v F' H', Ex F F' → SE K C F' H' σ ρ' → SrcV K F' σ src v xs → Q v H'
def tT (K : PySem.W.Frag) (ρ : En) (b : Bool) (ρ' : En) : TT := fun σ H Q => ∃ C F, SE K C F H σ ρ ∧ ∀ F' H', Ex F F' → SE K C F' H' σ ρ' → Q b H'
def tAs (K : PySem.W.Frag) (ρ : En) (xs : List PyData) (ρ' : En) : TA := fun σ H Q => ∃ C F, SE K C F H σ ρ ∧ ∀ vs F' H', Ex F F' → SE K C F' H' σ ρ' → RpA K F' vs xs → Q vs H'

abbrev PD (X : Cx) (e : Expr) (ρ : En) (x : PyData) (ρ' : En) : Prop := PE X e (tP X.K ρ x ρ')
abbrev PN (X : Cx) (e : Expr) (ρ : En) (s : Ct) (ρ' : En) : Prop := PE X e (tN X.K ρ s ρ')
abbrev PQ (X : Cx) (e : Expr) (ρ : En) (src : Option Nat) (xs : List PyData) (ρ' : En) : Prop := PE X e (tQ X.K ρ src xs ρ')
abbrev TD (X : Cx) (e : Expr) (ρ : En) (b : Bool) (ρ' : En) : Prop := PT X e (tT X.K ρ b ρ')
abbrev WD (X : Cx) (e : Expr) (ρ : En) (b : Bool) (ρ' : En) : Prop := PW X e (tT X.K ρ b ρ')
abbrev AD (X : Cx) (es : List Expr) (ρ : En) (xs : List PyData) (ρ' : En) : Prop := PA X es (tAs X.K ρ xs ρ')

section
variable {K : PySem.W.Frag} {C : Cn} {F H F' H' : Hp} {σ : L2.St} {ρ : En}
theorem SrcV.mono {src : Option Nat} {v : V} {xs : List PyData} (x : Ex F F') (h : SrcV K F σ src v xs) : SrcV K F' σ src v xs := by
  cases src with
  | none => obtain ⟨a, vs, b, c, d⟩ := h; exact ⟨a, vs, b, x.l c, d.mono x⟩
  | some i => exact h
theorem SrcV.look {src : Option Nat} {v : V} {xs : List PyData} (e : SE K C F H σ ρ) (h : SrcV K F σ src v xs) (ok : SrcOk ρ src xs) : ∃ a vs, v = .ref a ∧ SqL K H a vs ∧ RpA K F vs xs := by
  cases src with
  | none => obtain ⟨a, vs, b, c, d⟩ := h; exact ⟨a, vs, b, e.fr.ext.l c, d⟩
  | some i =>
    obtain ⟨a, rfl, h⟩ := h
    obtain ⟨p, ok⟩ := ok
    obtain ⟨l, h1, _, ⟨vs, h2, h3⟩, _⟩ := e.getO ok
    rw [h] at h1
    cases h1
    exact ⟨a, vs, rfl, SqL.of h2, h3⟩
end

section
variable {X : Cx} {e a b c : Expr} {es : List Expr} {pos : Pos} {ρ ρ' ρ1 ρ2 ρ3 : En} {x y z : PyData} {xs ys : List PyData}

/-- a new list as data -/
theorem pd_n (h : PN X e ρ (.l xs) ρ') : PD X e ρ (.list xs) ρ' := PE_imp h fun σ H Q ⟨C, F, se, q⟩ => ⟨C, F, se, fun p F' H' x se' fp h0 no ⟨vs, hp, r⟩ =>
  q (.ref p) (upd F' p (.lst vs)) H' (x.trans (.new fp)) (se'.frz fp hp h0 no) (.lst (SqL.of upd_same) (r.mono (.new fp)))⟩
theorem keys_zip {κ : Type} (f : κ → PyData) {kvs : List (κ × V)} {ds : List (κ × PyData)} (h : kvs.map (·.1) = ds.map (·.1)) : (kvs.map fun p => f p.1).zip (ds.map (·.2)) = ds.map fun p => (f p.1, p.2) := by
  have e : (kvs.map fun p => f p.1) = ds.map fun p => f p.1 := by
    have e1 : (kvs.map fun p => f p.1) = (kvs.map (·.1)).map f := by rw [List.map_map]; rfl
    have e2 : (ds.map fun p => f p.1) = (ds.map (·.1)).map f := by rw [List.map_map]; rfl
    rw [e1, e2, h]
  rw [e, List.zip_map']
/-- a new dict as data -/
theorem pd_nd {ds : List (Key × PyData)} (h : PN X e ρ (.d ds) ρ') : PD X e ρ (.dict (ds.map fun p => (kD p.1, p.2))) ρ' := PE_imp h fun σ H Q ⟨C, F, se, q⟩ => ⟨C, F, se, fun p F' H' x se' fp h0 no ⟨kvs, hp, r⟩ =>
  q (.ref p) (upd F' p (.dK kvs)) H' (x.trans (.new fp)) (se'.frz fp hp h0 no) (by rw [← keys_zip kD r.1]; exact .dK (Or.inl upd_same) (r.2.mono (.new fp)))⟩
theorem pq_d (h : PD X e ρ (.list xs) ρ') : PQ X e ρ none xs ρ' := PE_imp h fun σ H Q ⟨C, F, se, q⟩ => ⟨C, F, se, fun v F' H' x se' r => q v F' H' x se' (by
  cases r with
  | lst h1 h2 => exact ⟨_, _, rfl, h1, h2⟩)⟩
theorem pq_n (h : PN X e ρ (.l xs) ρ') : PQ X e ρ none xs ρ' := pq_d (pd_n h)
/-- a name whose slot owns a list -/
theorem pq_o (i : Nat) {x : Str} {p : Option Addr} (hi : ρ[i]? = some (.o p (.l xs))) (hN : X.N[i]? = some x := by rfl) (hv : Vis X.env.scope x := by first | exact Or.inl rfl | exact Or.inr (Or.inl rfl) | exact Or.inr (Or.inr rfl)) (hd : (x == ("__debug__" : Str)) = false := by decide)
    (hcd : (x == ("__classdict__" : Str)) = false := by decide) : PQ X (.Name x pos) ρ (some i) xs ρ := PE_imp (pe_var hN hv hd hcd) fun σ H Q ⟨C, F, se, q⟩ => by
  obtain ⟨l, h1, _, h2, _⟩ := se.getO hi
  exact ⟨.ref l, h1, q _ F H (.refl _) se ⟨l, rfl, h1⟩⟩
/-- a name whose slot holds data -/
theorem pd_var (i : Nat) {w : Str} (hi : ρ[i]? = some (.d x)) (hN : X.N[i]? = some w := by rfl) (hv : Vis X.env.scope w := by first | exact Or.inl rfl | exact Or.inr (Or.inl rfl) | exact Or.inr (Or.inr rfl)) (hd : (w == ("__debug__" : Str)) = false := by decide)
    (hcd : (w == ("__classdict__" : Str)) = false := by decide) : PD X (.Name w pos) ρ x ρ := PE_imp (pe_var hN hv hd hcd) fun σ H Q ⟨C, F, se, q⟩ => by
  obtain ⟨v, h1, h2⟩ := se.get hi
  exact ⟨v, h1, q _ F H (.refl _) se h2⟩
theorem pd_of_c {v : V} (h : PE X e (tC v)) (r : ∀ F, Rp X.K F v x) : PD X e ρ x ρ := PE_imp h fun σ H Q ⟨C, F, se, q⟩ => q v F H (.refl _) se (r F)
theorem pd_int {i : Int} {j} : PD X (.Constant (.int i) j pos) ρ (.int i) ρ := pd_of_c pe_int fun _ => .int i
theorem pd_str {i : Str} {j} : PD X (.Constant (.str i) j pos) ρ (.str i) ρ := pd_of_c pe_str fun _ => .str i
theorem pd_bl {i : Bool} {j} : PD X (.Constant (.bool i) j pos) ρ (.bool i) ρ := pd_of_c pe_bl fun _ => .bl i
theorem pd_non {j} : PD X (.Constant .none j pos) ρ .none ρ := pd_of_c pe_non fun _ => .non
theorem pd_gint {w : Str} {i : Int} {t : Tok} (hm : X.mg w = some (.int i t)) (hg : Gl X w := by rfl) (hd : (w == ("__debug__" : Str)) = false := by decide) : PD X (.Name w pos) ρ (.int i) ρ := pd_of_c (pe_glob hg hm (v := .int i) ⟨t, rfl⟩ hd) fun _ => .int i
theorem pd_gstr {w : Str} {i : Str} {t : Tok} (hm : X.mg w = some (.str i t)) (hg : Gl X w := by rfl) (hd : (w == ("__debug__" : Str)) = false := by decide) : PD X (.Name w pos) ρ (.str i) ρ := pd_of_c (pe_glob hg hm (v := .str i) ⟨t, rfl⟩ hd) fun _ => .str i

/-! ### operators -/
/-- an operator's reading takes data to data -/
def OpD (K : PySem.W.Frag) (r : R2) (x y z : PyData) : Prop := ∀ (F H : Hp) (v w : V) (Q : VK), Ex F H → Rp K F v x → Rp K F w y → (∀ u F' H', Gr F H F' H' → Rp K F' u z → Q u H') → r v w H Q
theorem pd_op {op : Operator} {r : R2} (ho : OpR X (binaryOp op) r) (h : OpD X.K r x y z) (ha : PD X a ρ x ρ1) (hb : PD X b ρ1 y ρ2) : PD X (.BinOp a op b pos) ρ z ρ2 := PE_imp (pe_op ho ha hb) fun σ H Q ⟨C, F, e, q⟩ =>
  ⟨C, F, e, fun v F1 H1 x1 e1 r1 => ⟨C, F1, e1, fun w F2 H2 x2 e2 r2 => h F2 H2 v w Q e2.fr.ext (r1.mono x2) r2 fun u F3 H3 g r3 => q u F3 H3 (x1.trans (x2.trans g.f)) (e2.grow g) r3⟩⟩
theorem pd_cmp {op : CmpOp} {r : R2} (ho : OpR X (compareOp op) r) (h : OpD X.K r x y z) (ha : PD X a ρ x ρ1) (hb : PD X b ρ1 y ρ2) (hm : behindInMarks op b = false) : PD X (.Compare a [op] [b] pos) ρ z ρ2 := PE_imp (pe_cmpR ho ha hb hm) fun σ H Q ⟨C, F, e, q⟩ =>
  ⟨C, F, e, fun v F1 H1 x1 e1 r1 => ⟨C, F1, e1, fun w F2 H2 x2 e2 r2 => h F2 H2 v w Q e2.fr.ext (r1.mono x2) r2 fun u F3 H3 g r3 => q u F3 H3 (x1.trans (x2.trans g.f)) (e2.grow g) r3⟩⟩
theorem rp_bool {K : PySem.W.Frag} {F : Hp} {v : V} {k : Bool} (r : Rp K F v (.bool k)) : v = .bl k := by cases r; rfl
theorem rp_int {K : PySem.W.Frag} {F : Hp} {v : V} {k : Int} (r : Rp K F v (.int k)) : v = .int k := by cases r; rfl
theorem rp_str {K : PySem.W.Frag} {F : Hp} {v : V} {k : Str} (r : Rp K F v (.str k)) : v = .str k := by cases r; rfl
theorem rp_non {K : PySem.W.Frag} {F : Hp} {v : V} (r : Rp K F v .none) : v = .non := by cases r; rfl
theorem td_cmp {op : CmpOp} {r : R2} {k : Bool} (ho : OpR X (compareOp op) r) (h : OpD X.K r x y (.bool k)) (ha : PD X a ρ x ρ1) (hb : PD X b ρ1 y ρ2) (hm : behindInMarks op b = false) : TD X (.Compare a [op] [b] pos) ρ k ρ2 := PT_imp (pt_cmpR ho ha hb hm) fun σ H Q ⟨C, F, e, q⟩ =>
  ⟨C, F, e, fun v F1 H1 x1 e1 r1 => ⟨C, F1, e1, fun w F2 H2 x2 e2 r2 => h F2 H2 v w _ e2.fr.ext (r1.mono x2) r2 fun u F3 H3 g r3 => ⟨k, rp_bool r3, q F3 H3 (x1.trans (x2.trans g.f)) (e2.grow g)⟩⟩⟩
section
variable {K : PySem.W.Frag} {i j : Int} {s t : Str}
theorem opd_I0 {g : Int → Int → V} (h : ∀ F, Rp K F (g i j) z) : OpD K (rI0 g) (.int i) (.int j) z := fun F H v w Q e r1 r2 q => ⟨i, j, rp_int r1, rp_int r2, q _ F H (.refl e) (h F)⟩
theorem opd_I {P : Int → Int → Prop} {g : Int → Int → V} (hp : P i j) (h : ∀ F, Rp K F (g i j) z) : OpD K (rI P g) (.int i) (.int j) z := fun F H v w Q e r1 r2 q => ⟨i, j, rp_int r1, rp_int r2, hp, q _ F H (.refl e) (h F)⟩
end
variable {i j : Int} {s t : Str}
theorem pd_add (ha : PD X a ρ (.int i) ρ1) (hb : PD X b ρ1 (.int j) ρ2) : PD X (.BinOp a .Add b pos) ρ (.int (i + j)) ρ2 := pd_op op_add (opd_I0 fun _ => .int _) ha hb
theorem pd_sub (ha : PD X a ρ (.int i) ρ1) (hb : PD X b ρ1 (.int j) ρ2) : PD X (.BinOp a .Sub b pos) ρ (.int (i - j)) ρ2 := pd_op op_sub (opd_I0 fun _ => .int _) ha hb
theorem pd_mul (hc : CMul i j) (ha : PD X a ρ (.int i) ρ1) (hb : PD X b ρ1 (.int j) ρ2) : PD X (.BinOp a .Mult b pos) ρ (.int (i * j)) ρ2 := pd_op op_mul (opd_I hc fun _ => .int _) ha hb
theorem pd_fdiv (hc : CDiv i j) (ha : PD X a ρ (.int i) ρ1) (hb : PD X b ρ1 (.int j) ρ2) : PD X (.BinOp a .FloorDiv b pos) ρ (.int (i / j)) ρ2 := pd_op op_fdiv (opd_I hc fun _ => .int _) ha hb
theorem pd_mod (hc : 0 < j) (ha : PD X a ρ (.int i) ρ1) (hb : PD X b ρ1 (.int j) ρ2) : PD X (.BinOp a .Mod b pos) ρ (.int (i % j)) ρ2 := pd_op op_mod (opd_I hc fun _ => .int _) ha hb
theorem pd_pow (hc : CPow i j) (ha : PD X a ρ (.int i) ρ1) (hb : PD X b ρ1 (.int j) ρ2) : PD X (.BinOp a .Pow b pos) ρ (.int (i ^ j.toNat)) ρ2 := pd_op op_pow (opd_I hc fun _ => .int _) ha hb
theorem pd_addS (hc : s.length + t.length ≤ sizeLine) (ha : PD X a ρ (.str s) ρ1) (hb : PD X b ρ1 (.str t) ρ2) : PD X (.BinOp a .Add b pos) ρ (.str (s ++ t)) ρ2 :=
  pd_op op_add_str (fun F H v w Q e r1 r2 q => ⟨s, t, rp_str r1, rp_str r2, hc, q _ F H (.refl e) (.str _)⟩) ha hb
theorem td_lt (ha : PD X a ρ (.int i) ρ1) (hb : PD X b ρ1 (.int j) ρ2) : TD X (.Compare a [.Lt] [b] pos) ρ (decide (i < j)) ρ2 := td_cmp op_lt (opd_I0 fun _ => .bl _) ha hb (nomark _)
theorem td_le (ha : PD X a ρ (.int i) ρ1) (hb : PD X b ρ1 (.int j) ρ2) : TD X (.Compare a [.LtE] [b] pos) ρ (decide (i ≤ j)) ρ2 := td_cmp op_le (opd_I0 fun _ => .bl _) ha hb (nomark _)
theorem td_gt (ha : PD X a ρ (.int i) ρ1) (hb : PD X b ρ1 (.int j) ρ2) : TD X (.Compare a [.Gt] [b] pos) ρ (decide (j < i)) ρ2 := td_cmp op_gt (opd_I0 fun _ => .bl _) ha hb (nomark _)
theorem td_ge (ha : PD X a ρ (.int i) ρ1) (hb : PD X b ρ1 (.int j) ρ2) : TD X (.Compare a [.GtE] [b] pos) ρ (decide (j ≤ i)) ρ2 := td_cmp op_ge (opd_I0 fun _ => .bl _) ha hb (nomark _)
theorem pd_lt (ha : PD X a ρ (.int i) ρ1) (hb : PD X b ρ1 (.int j) ρ2) : PD X (.Compare a [.Lt] [b] pos) ρ (.bool (decide (i < j))) ρ2 := pd_cmp op_lt (opd_I0 fun _ => .bl _) ha hb (nomark _)
theorem pd_le (ha : PD X a ρ (.int i) ρ1) (hb : PD X b ρ1 (.int j) ρ2) : PD X (.Compare a [.LtE] [b] pos) ρ (.bool (decide (i ≤ j))) ρ2 := pd_cmp op_le (opd_I0 fun _ => .bl _) ha hb (nomark _)
theorem pd_gt (ha : PD X a ρ (.int i) ρ1) (hb : PD X b ρ1 (.int j) ρ2) : PD X (.Compare a [.Gt] [b] pos) ρ (.bool (decide (j < i))) ρ2 := pd_cmp op_gt (opd_I0 fun _ => .bl _) ha hb (nomark _)
theorem pd_ge (ha : PD X a ρ (.int i) ρ1) (hb : PD X b ρ1 (.int j) ρ2) : PD X (.Compare a [.GtE] [b] pos) ρ (.bool (decide (j ≤ i))) ρ2 := pd_cmp op_ge (opd_I0 fun _ => .bl _) ha hb (nomark _)

/-! ### == of data -/
/-- none, bools, ints, texts, lists, tuples of these -/
def flat (d : PyData) : Bool := SeqAt.shaped d
mutual
theorem Rp.dp {K : PySem.W.Frag} {F : Hp} : ∀ (d : PyData) {v : V}, Rp K F v d → d.canLay0 = true → Dp K F v d
  | .none, _, h, _ => by cases h; exact .non
  | .bool b, _, h, _ => by cases h; exact .bl b
  | .int b, _, h, _ => by cases h; exact .int b
  | .str b, _, h, _ => by cases h; exact .str b
  | .list ds, _, h, q => by
    cases h with
    | lst h r => exact .lst h (RpA.dp ds r (by simpa [PyData.canLay0] using q))
  | .tuple ds, _, h, q => by
    cases h with
    | tup h r => exact .tup h (RpA.dp ds r (by simpa [PyData.canLay0] using q))
  | .dict _, _, _, q => by simp [PyData.canLay0] at q
theorem RpA.dp {K : PySem.W.Frag} {F : Hp} : ∀ (ds : List PyData) {v : List V}, RpA K F v ds → PyData.canLayAll0 ds = true → DpAll K F v ds
  | [], _, h, _ => by cases h; exact .nil
  | d :: ds, _, h, q => by
    have q' : d.canLay0 = true ∧ PyData.canLayAll0 ds = true := by simpa [PyData.canLayAll0] using q
    cases h with
    | cons h r => exact .cons (Rp.dp d h q'.1) (RpA.dp ds r q'.2)
end
mutual
theorem dp_mono {K : PySem.W.Frag} {F F' : Hp} (e : Ex F F') : ∀ (d : PyData) {v : V}, Dp K F v d → Dp K F' v d
  | .none, _, h => by cases h; exact .non
  | .bool b, _, h => by cases h; exact .bl b
  | .int b, _, h => by cases h; exact .int b
  | .str b, _, h => by cases h; exact .str b
  | .list ds, _, h => by
    cases h with
    | lst h r => exact .lst (e.l h) (dpa_mono e ds r)
  | .tuple ds, _, h => by
    cases h with
    | tup h r => exact .tup (e.t h) (dpa_mono e ds r)
  | .dict _, _, h => by cases h
theorem dpa_mono {K : PySem.W.Frag} {F F' : Hp} (e : Ex F F') : ∀ (ds : List PyData) {v : List V}, DpAll K F v ds → DpAll K F' v ds
  | [], _, h => by cases h; exact .nil
  | d :: ds, _, h => by
    cases h with
    | cons h r => exact .cons (dp_mono e d h) (dpa_mono e ds r)
end
theorem opd_eqD {K : PySem.W.Frag} (hx : flat x = true) (hy : flat y = true) : OpD K (rEqD K) x y (.bool (PyData.eqv x y)) := fun F H v w Q e r1 r2 q =>
  ⟨x, y, dp_mono e x (Rp.dp x r1 (SeqAt.canLay_of_shaped hx)), dp_mono e y (Rp.dp y r2 (SeqAt.canLay_of_shaped hy)), hx, hy, q _ F H (.refl e) (.bl _)⟩
theorem opd_neD {K : PySem.W.Frag} (hx : flat x = true) (hy : flat y = true) : OpD K (rNeD K) x y (.bool (!PyData.eqv x y)) := fun F H v w Q e r1 r2 q =>
  ⟨x, y, dp_mono e x (Rp.dp x r1 (SeqAt.canLay_of_shaped hx)), dp_mono e y (Rp.dp y r2 (SeqAt.canLay_of_shaped hy)), hx, hy, q _ F H (.refl e) (.bl _)⟩
theorem td_eq (hu : X.A.units + 64 < cLine) (hx : flat x = true) (hy : flat y = true) (ha : PD X a ρ x ρ1) (hb : PD X b ρ1 y ρ2) : TD X (.Compare a [.Eq] [b] pos) ρ (PyData.eqv x y) ρ2 := td_cmp (op_eqD hu) (opd_eqD hx hy) ha hb (nomark _)
theorem td_ne (hu : X.A.units + 64 < cLine) (hx : flat x = true) (hy : flat y = true) (ha : PD X a ρ x ρ1) (hb : PD X b ρ1 y ρ2) : TD X (.Compare a [.NotEq] [b] pos) ρ (!PyData.eqv x y) ρ2 := td_cmp (op_neD hu) (opd_neD hx hy) ha hb (nomark _)
theorem pd_eq (hu : X.A.units + 64 < cLine) (hx : flat x = true) (hy : flat y = true) (ha : PD X a ρ x ρ1) (hb : PD X b ρ1 y ρ2) : PD X (.Compare a [.Eq] [b] pos) ρ (.bool (PyData.eqv x y)) ρ2 := pd_cmp (op_eqD hu) (opd_eqD hx hy) ha hb (nomark _)
theorem pd_ne (hu : X.A.units + 64 < cLine) (hx : flat x = true) (hy : flat y = true) (ha : PD X a ρ x ρ1) (hb : PD X b ρ1 y ρ2) : PD X (.Compare a [.NotEq] [b] pos) ρ (.bool (!PyData.eqv x y)) ρ2 := pd_cmp (op_neD hu) (opd_neD hx hy) ha hb (nomark _)
/-- of ints, of texts -/
theorem td_eqI (ha : PD X a ρ (.int i) ρ1) (hb : PD X b ρ1 (.int j) ρ2) : TD X (.Compare a [.Eq] [b] pos) ρ (decide (i = j)) ρ2 :=
  td_cmp op_eq (fun F H v w Q e r1 r2 q => by rw [rp_int r1, rp_int r2]; exact ⟨rfl, q _ F H (.refl e) (by rw [dec_int, Bool.beq_eq_decide_eq]; exact .bl _)⟩) ha hb (nomark _)
theorem td_neI (ha : PD X a ρ (.int i) ρ1) (hb : PD X b ρ1 (.int j) ρ2) : TD X (.Compare a [.NotEq] [b] pos) ρ (!decide (i = j)) ρ2 :=
  td_cmp op_ne (fun F H v w Q e r1 r2 q => by rw [rp_int r1, rp_int r2]; exact ⟨rfl, q _ F H (.refl e) (by rw [dec_int, Bool.beq_eq_decide_eq]; exact .bl _)⟩) ha hb (nomark _)
theorem td_eqS (ha : PD X a ρ (.str s) ρ1) (hb : PD X b ρ1 (.str t) ρ2) : TD X (.Compare a [.Eq] [b] pos) ρ (decide (s = t)) ρ2 :=
  td_cmp op_eq (fun F H v w Q e r1 r2 q => by rw [rp_str r1, rp_str r2]; exact ⟨rfl, q _ F H (.refl e) (by rw [dec_str, Bool.beq_eq_decide_eq]; exact .bl _)⟩) ha hb (nomark _)
theorem td_neS (ha : PD X a ρ (.str s) ρ1) (hb : PD X b ρ1 (.str t) ρ2) : TD X (.Compare a [.NotEq] [b] pos) ρ (!decide (s = t)) ρ2 :=
  td_cmp op_ne (fun F H v w Q e r1 r2 q => by rw [rp_str r1, rp_str r2]; exact ⟨rfl, q _ F H (.refl e) (by rw [dec_str, Bool.beq_eq_decide_eq]; exact .bl _)⟩) ha hb (nomark _)
theorem pd_eqI (ha : PD X a ρ (.int i) ρ1) (hb : PD X b ρ1 (.int j) ρ2) : PD X (.Compare a [.Eq] [b] pos) ρ (.bool (decide (i = j))) ρ2 :=
  pd_cmp op_eq (fun F H v w Q e r1 r2 q => by rw [rp_int r1, rp_int r2]; exact ⟨rfl, q _ F H (.refl e) (by rw [dec_int, Bool.beq_eq_decide_eq]; exact .bl _)⟩) ha hb (nomark _)
theorem pd_neI (ha : PD X a ρ (.int i) ρ1) (hb : PD X b ρ1 (.int j) ρ2) : PD X (.Compare a [.NotEq] [b] pos) ρ (.bool (!decide (i = j))) ρ2 :=
  pd_cmp op_ne (fun F H v w Q e r1 r2 q => by rw [rp_int r1, rp_int r2]; exact ⟨rfl, q _ F H (.refl e) (by rw [dec_int, Bool.beq_eq_decide_eq]; exact .bl _)⟩) ha hb (nomark _)
theorem pd_eqS (ha : PD X a ρ (.str s) ρ1) (hb : PD X b ρ1 (.str t) ρ2) : PD X (.Compare a [.Eq] [b] pos) ρ (.bool (decide (s = t))) ρ2 :=
  pd_cmp op_eq (fun F H v w Q e r1 r2 q => by rw [rp_str r1, rp_str r2]; exact ⟨rfl, q _ F H (.refl e) (by rw [dec_str, Bool.beq_eq_decide_eq]; exact .bl _)⟩) ha hb (nomark _)
def isNone : PyData → Bool
  | .none => true
  | _ => false
theorem isNone_v {K : PySem.W.Frag} {F : Hp} {v : V} (r : Rp K F v x) : decide (v = V.non) = isNone x := by
  cases r <;> first | rfl | exact decide_eq_false (fun z => nomatch z)
theorem td_isN {k} {p' : Pos} (ha : PD X a ρ x ρ1) : TD X (.Compare a [.Is] [.Constant .none k p'] pos) ρ (isNone x) ρ1 :=
  td_cmp (op_isN) (fun F H v w Q e r1 r2 q => ⟨rp_non r2, q _ F H (.refl e) (by rw [isNone_v r1]; exact .bl _)⟩) ha pd_non (nomark _)
theorem td_notN {k} {p' : Pos} (ha : PD X a ρ x ρ1) : TD X (.Compare a [.IsNot] [.Constant .none k p'] pos) ρ (!isNone x) ρ1 :=
  td_cmp (op_notN) (fun F H v w Q e r1 r2 q => ⟨rp_non r2, q _ F H (.refl e) (by rw [isNone_v r1]; exact .bl _)⟩) ha pd_non (nomark _)
theorem pd_isN {k} {p' : Pos} (ha : PD X a ρ x ρ1) : PD X (.Compare a [.Is] [.Constant .none k p'] pos) ρ (.bool (isNone x)) ρ1 :=
  pd_cmp (op_isN) (fun F H v w Q e r1 r2 q => ⟨rp_non r2, q _ F H (.refl e) (by rw [isNone_v r1]; exact .bl _)⟩) ha pd_non (nomark _)
theorem pd_neg (ha : PD X a ρ (.int i) ρ1) : PD X (.UnaryOp .USub a pos) ρ (.int (-i)) ρ1 := PE_imp (pe_un un_neg ha) fun σ H Q ⟨C, F, e, q⟩ =>
  ⟨C, F, e, fun v F1 H1 x1 e1 r1 => ⟨i, rp_int r1, q _ F1 H1 x1 e1 (.int _)⟩⟩

/-! ### tests -/
variable {k k1 k2 : Bool} {rest : List Expr}
theorem td_val (h : PD X e ρ (.bool k) ρ') (he : ∀ whole, isTrue e X.env whole = (do let v ← whole; standAt e.pos; holding [v] (truthy v)) := by intro _; rfl) : TD X e ρ k ρ' := PT_imp (pt_val h he) fun σ H Q ⟨C, F, se, q⟩ =>
  ⟨C, F, se, fun v F1 H1 x1 e1 r1 => ⟨k, rp_bool r1, q F1 H1 x1 e1⟩⟩
/-- the truth of data -/
def truD : PyData → Bool
  | .none => false
  | .bool b => b
  | .int i => i != 0
  | .str s => s.length != 0
  | .list xs => !xs.isEmpty
  | .tuple xs => !xs.isEmpty
  | .dict kvs => !kvs.isEmpty
theorem td_not (h : TD X a ρ k ρ') : TD X (.UnaryOp .Not a pos) ρ (!k) ρ' := PT_imp (pt_not h) fun σ H Q ⟨C, F, se, q⟩ => ⟨C, F, se, fun F1 H1 x1 e1 => q F1 H1 x1 e1⟩
theorem wd_and1 (h : TD X a ρ k ρ') : WD X (.BoolOp .And [a] pos) ρ k ρ' := pw_and1 h
theorem wd_or1 (h : TD X a ρ k ρ') : WD X (.BoolOp .Or [a] pos) ρ k ρ' := pw_or1 h
theorem wd_and (ha : TD X a ρ k1 ρ1) (hb : k1 = true → WD X (.BoolOp .And (b :: rest) pos) ρ1 k2 ρ1) : WD X (.BoolOp .And (a :: b :: rest) pos) ρ (k1 && k2) ρ1 := by
  cases k1 with
  | true => exact PW_imp (pw_and ha (hb rfl)) fun σ H Q ⟨C, F, se, q⟩ => ⟨C, F, se, fun F1 H1 x1 e1 => by
      refine iteT ?_
      exact ⟨C, F1, e1, fun F2 H2 x2 e2 => q F2 H2 (x1.trans x2) e2⟩⟩
  | false =>
    have hb' : PW X (.BoolOp .And (b :: rest) pos) (fun _ _ _ => False) := ⟨fun _ _ _ _ _ _ _ h => h.elim⟩
    exact PW_imp (pw_and ha hb') fun σ H Q ⟨C, F, se, q⟩ => ⟨C, F, se, fun F1 H1 x1 e1 => by
      refine iteF ?_
      exact q F1 H1 x1 e1⟩
/-- the second changes the slots -/
theorem wd_and_t (ha : TD X a ρ true ρ1) (hb : WD X (.BoolOp .And (b :: rest) pos) ρ1 k2 ρ2) : WD X (.BoolOp .And (a :: b :: rest) pos) ρ k2 ρ2 := PW_imp (pw_and ha hb) fun σ H Q ⟨C, F, se, q⟩ => ⟨C, F, se, fun F1 H1 x1 e1 => by
  refine iteT ?_
  exact ⟨C, F1, e1, fun F2 H2 x2 e2 => q F2 H2 (x1.trans x2) e2⟩⟩
theorem wd_and_f (ha : TD X a ρ false ρ1) : WD X (.BoolOp .And (a :: b :: rest) pos) ρ false ρ1 := by
  have hb' : PW X (.BoolOp .And (b :: rest) pos) (fun _ _ _ => False) := ⟨fun _ _ _ _ _ _ _ h => h.elim⟩
  exact PW_imp (pw_and ha hb') fun σ H Q ⟨C, F, se, q⟩ => ⟨C, F, se, fun F1 H1 x1 e1 => by
    refine iteF ?_
    exact q F1 H1 x1 e1⟩
theorem wd_or_t (ha : TD X a ρ true ρ1) : WD X (.BoolOp .Or (a :: b :: rest) pos) ρ true ρ1 := by
  have hb' : PW X (.BoolOp .Or (b :: rest) pos) (fun _ _ _ => False) := ⟨fun _ _ _ _ _ _ _ h => h.elim⟩
  exact PW_imp (pw_or ha hb') fun σ H Q ⟨C, F, se, q⟩ => ⟨C, F, se, fun F1 H1 x1 e1 => by
    refine iteT ?_
    exact q F1 H1 x1 e1⟩
theorem wd_or_f (ha : TD X a ρ false ρ1) (hb : WD X (.BoolOp .Or (b :: rest) pos) ρ1 k2 ρ2) : WD X (.BoolOp .Or (a :: b :: rest) pos) ρ k2 ρ2 := PW_imp (pw_or ha hb) fun σ H Q ⟨C, F, se, q⟩ => ⟨C, F, se, fun F1 H1 x1 e1 => by
  refine iteF ?_
  exact ⟨C, F1, e1, fun F2 H2 x2 e2 => q F2 H2 (x1.trans x2) e2⟩⟩
theorem wd_or (ha : TD X a ρ k1 ρ1) (hb : k1 = false → WD X (.BoolOp .Or (b :: rest) pos) ρ1 k2 ρ1) : WD X (.BoolOp .Or (a :: b :: rest) pos) ρ (k1 || k2) ρ1 := by
  cases k1 with
  | true => exact wd_or_t ha
  | false => exact wd_or_f ha (hb rfl)
theorem td_w (h : WD X e ρ k ρ') : TD X e ρ k ρ' := h.pt
/-- and, or, not as values -/
theorem pd_not (h : PD X a ρ (.bool k) ρ') : PD X (.UnaryOp .Not a pos) ρ (.bool (!k)) ρ' := PE_imp (pe_not h) fun σ H Q ⟨C, F, se, q⟩ => ⟨C, F, se, fun v F1 H1 x1 e1 r1 => ⟨k, rp_bool r1, q _ F1 H1 x1 e1 (.bl _)⟩⟩
theorem pd_one {op} (h : PD X a ρ x ρ') : PD X (.BoolOp op [a] pos) ρ x ρ' := pe_one h
theorem pd_and_t (ha : PD X a ρ (.bool true) ρ1) (hb : PD X (.BoolOp .And (b :: rest) pos) ρ1 x ρ2) : PD X (.BoolOp .And (a :: b :: rest) pos) ρ x ρ2 := PE_imp (pe_and ha hb) fun σ H Q ⟨C, F, se, q⟩ => ⟨C, F, se, fun v F1 H1 x1 e1 r1 => ⟨true, rp_bool r1, by
  refine iteT ?_
  exact ⟨C, F1, e1, fun w F2 H2 x2 e2 r2 => q w F2 H2 (x1.trans x2) e2 r2⟩⟩⟩
theorem pd_and_f (ha : PD X a ρ (.bool false) ρ1) : PD X (.BoolOp .And (a :: b :: rest) pos) ρ (.bool false) ρ1 := by
  have hb' : PE X (.BoolOp .And (b :: rest) pos) (fun _ _ _ => False) := ⟨fun _ _ _ _ _ _ h => h.elim⟩
  exact PE_imp (pe_and ha hb') fun σ H Q ⟨C, F, se, q⟩ => ⟨C, F, se, fun v F1 H1 x1 e1 r1 => ⟨false, rp_bool r1, by
    refine iteF ?_
    exact q _ F1 H1 x1 e1 (.bl _)⟩⟩
theorem pd_and (ha : PD X a ρ (.bool k1) ρ1) (hb : k1 = true → PD X (.BoolOp .And (b :: rest) pos) ρ1 (.bool k2) ρ1) : PD X (.BoolOp .And (a :: b :: rest) pos) ρ (.bool (k1 && k2)) ρ1 := by
  cases k1 with
  | true => exact pd_and_t ha (hb rfl)
  | false => exact pd_and_f ha
theorem pd_or_f (ha : PD X a ρ (.bool false) ρ1) (hb : PD X (.BoolOp .Or (b :: rest) pos) ρ1 x ρ2) : PD X (.BoolOp .Or (a :: b :: rest) pos) ρ x ρ2 := PE_imp (pe_or ha hb) fun σ H Q ⟨C, F, se, q⟩ => ⟨C, F, se, fun v F1 H1 x1 e1 r1 => ⟨false, rp_bool r1, by
  refine iteF ?_
  exact ⟨C, F1, e1, fun w F2 H2 x2 e2 r2 => q w F2 H2 (x1.trans x2) e2 r2⟩⟩⟩
theorem pd_or_t (ha : PD X a ρ (.bool true) ρ1) : PD X (.BoolOp .Or (a :: b :: rest) pos) ρ (.bool true) ρ1 := by
  have hb' : PE X (.BoolOp .Or (b :: rest) pos) (fun _ _ _ => False) := ⟨fun _ _ _ _ _ _ h => h.elim⟩
  exact PE_imp (pe_or ha hb') fun σ H Q ⟨C, F, se, q⟩ => ⟨C, F, se, fun v F1 H1 x1 e1 r1 => ⟨true, rp_bool r1, by
    refine iteT ?_
    exact q _ F1 H1 x1 e1 (.bl _)⟩⟩
theorem pd_or (ha : PD X a ρ (.bool k1) ρ1) (hb : k1 = false → PD X (.BoolOp .Or (b :: rest) pos) ρ1 (.bool k2) ρ1) : PD X (.BoolOp .Or (a :: b :: rest) pos) ρ (.bool (k1 || k2)) ρ1 := by
  cases k1 with
  | true => exact pd_or_t ha
  | false => exact pd_or_f ha (hb rfl)
theorem pd_if (hc : TD X c ρ k ρ1) (ha : k = true → PD X a ρ1 x ρ2) (hb : k = false → PD X b ρ1 y ρ2) : PD X (.IfExp c a b pos) ρ (if k = true then x else y) ρ2 := by
  cases k with
  | true =>
    have hb' : PE X b (fun _ _ _ => False) := ⟨fun _ _ _ _ _ _ h => h.elim⟩
    exact PE_imp (pe_ifExp hc (ha rfl) hb') fun σ H Q ⟨C, F, se, q⟩ => ⟨C, F, se, fun F1 H1 x1 e1 => by
      refine iteT ?_
      exact ⟨C, F1, e1, fun w F2 H2 x2 e2 r2 => q w F2 H2 (x1.trans x2) e2 (by rw [if_pos rfl]; exact r2)⟩⟩
  | false =>
    have ha' : PE X a (fun _ _ _ => False) := ⟨fun _ _ _ _ _ _ h => h.elim⟩
    exact PE_imp (pe_ifExp hc ha' (hb rfl)) fun σ H Q ⟨C, F, se, q⟩ => ⟨C, F, se, fun F1 H1 x1 e1 => by
      refine iteF ?_
      exact ⟨C, F1, e1, fun w F2 H2 x2 e2 r2 => q w F2 H2 (x1.trans x2) e2 (by rw [if_neg Bool.false_ne_true]; exact r2)⟩⟩
theorem pd_if_t (hc : TD X c ρ true ρ1) (ha : PD X a ρ1 x ρ2) : PD X (.IfExp c a b pos) ρ x ρ2 := by
  have h := pd_if (x := x) (y := x) (b := b) (pos := pos) hc (fun _ => ha) (fun z => nomatch z)
  rw [if_pos rfl] at h; exact h
theorem pd_if_f (hc : TD X c ρ false ρ1) (hb : PD X b ρ1 x ρ2) : PD X (.IfExp c a b pos) ρ x ρ2 := by
  have h := pd_if (x := x) (y := x) (a := a) (pos := pos) hc (fun z => nomatch z) (fun _ => hb)
  rw [if_neg Bool.false_ne_true] at h; exact h

/-! ### displays -/
theorem ad_nil : AD X [] ρ [] ρ := PA_imp pa_nil fun σ H Q ⟨C, F, se, q⟩ => q [] F H (.refl _) se .nil
theorem ad_cons (h : PD X e ρ x ρ1) (hr : AD X es ρ1 xs ρ2) (hs : starEach (e :: es) X.env = (false, eval e X.env) :: starEach es X.env := by rfl) : AD X (e :: es) ρ (x :: xs) ρ2 := PA_imp (pa_cons h hr hs) fun σ H Q ⟨C, F, se, q⟩ =>
  ⟨C, F, se, fun v F1 H1 x1 e1 r1 => ⟨C, F1, e1, fun vs F2 H2 x2 e2 r2 => q (v :: vs) F2 H2 (x1.trans x2) e2 (.cons (r1.mono x2) r2)⟩⟩
theorem line_of {n : Nat} (h : n ≤ 100000) : n ≤ sizeLine := Nat.le_trans h (by decide)
theorem line_lt {n : Nat} (h : n < 100000) : n < sizeLine := Nat.lt_of_lt_of_le h (by decide)
theorem pd_tup {x1} (h : AD X es ρ xs ρ') (hl : xs.length ≤ 100000 := by exact Nat.le_of_ble_eq_true rfl) : PD X (.Tuple es x1 pos) ρ (.tuple xs) ρ' := PE_imp (pe_tup h) fun σ H Q ⟨C, F, se, q⟩ =>
  ⟨C, F, se, fun vs F1 H1 x1 e1 r1 => ⟨by rw [r1.length]; exact line_of hl, fun p hp => q (.ref p) _ _ (x1.trans (.new (e1.fr.ext.none hp))) (e1.grow (.push e1.fr.ext hp)) (.tup (SqT.of upd_same) (r1.mono (.new (e1.fr.ext.none hp))))⟩⟩
/-- a new object is laid -/
theorem SE.lay {K : PySem.W.Frag} {C : Cn} {F H : Hp} {σ : L2.St} {ρ : En} (e : SE K C F H σ ρ) {p : Addr} {o : HO} (hp : H p = none) : SE K C F (upd H p o) σ ρ ∧ F p = none ∧ C.H0 p = none ∧ (∀ j, ¬ Owns σ ρ j p) :=
  ⟨e.grow (.side e.fr.ext hp), e.fr.ext.none hp, e.fr.there p hp, not_owns_new e hp⟩
theorem pn_lst (h : AD X es ρ xs ρ') (hl : xs.length ≤ 100000 := by exact Nat.le_of_ble_eq_true rfl) : PN X (.List es pos) ρ (.l xs) ρ' := PE_imp (pe_lst h) fun σ H Q ⟨C, F, se, q⟩ =>
  ⟨C, F, se, fun vs F1 H1 x1 e1 r1 => ⟨by rw [r1.length]; exact line_of hl, fun p hp => by
    obtain ⟨a, b, c, d⟩ := e1.lay (o := .lst vs) hp
    exact q p F1 _ x1 a b c d ⟨vs, upd_same, r1⟩⟩⟩
theorem pn_dict : PN X (.Dict [] [] pos) ρ (.d []) ρ := PE_imp pe_dnewK fun σ H Q ⟨C, F, se, q⟩ p hp => by
  obtain ⟨a, b, c, d⟩ := se.lay (o := .dK []) hp
  exact q p F _ (.refl _) a b c d ⟨[], upd_same, rfl, .nil⟩
theorem pn_dictT : PN X (.Dict [] [] pos) ρ (.t []) ρ := PE_imp pe_dnewT fun σ H Q ⟨C, F, se, q⟩ p hp => by
  obtain ⟨a, b, c, d⟩ := se.lay (o := .dT []) hp
  exact q p F _ (.refl _) a b c d ⟨[], upd_same, rfl, .nil⟩

/-! ### subscripts -/
theorem atI_rp {K : PySem.W.Frag} {F : Hp} {vs : List V} (r : RpA K F vs xs) (h : atI xs i = some x) : ∃ v, atI vs i = some v ∧ Rp K F v x := by
  unfold atI at h ⊢
  rw [r.length]
  cases q : ixN xs.length i with
  | none => rw [q] at h; cases h
  | some n => rw [q] at h; exact r.get (by simpa using h)
theorem pd_ixL {src : Option Nat} (h : atI xs i = some x) (ok : SrcOk ρ2 src xs) (ha : PQ X a ρ src xs ρ1) (hb : PD X b ρ1 (.int i) ρ2) (hs : PlainIx b := by intro _ _; rfl) : PD X (.Subscript a b pos) ρ x ρ2 := PE_imp (pe_ix ix_list ha hb hs) fun σ H Q ⟨C, F, se, q⟩ =>
  ⟨C, F, se, fun v F1 H1 x1 e1 s1 => ⟨C, F1, e1, fun w F2 H2 x2 e2 r2 => by
    obtain ⟨p, vs, rfl, l, r⟩ := (s1.mono x2).look e2 ok
    obtain ⟨u, h1, h2⟩ := atI_rp r h
    exact ⟨p, vs, i, u, rfl, rp_int r2, l, h1, q u F2 H2 (x1.trans x2) e2 h2⟩⟩⟩
theorem pd_ixT (h : atI xs i = some x) (ha : PD X a ρ (.tuple xs) ρ1) (hb : PD X b ρ1 (.int i) ρ2) (hs : PlainIx b := by intro _ _; rfl) : PD X (.Subscript a b pos) ρ x ρ2 := PE_imp (pe_ix ix_tup ha hb hs) fun σ H Q ⟨C, F, se, q⟩ =>
  ⟨C, F, se, fun v F1 H1 x1 e1 r1 => ⟨C, F1, e1, fun w F2 H2 x2 e2 r2 => by
    cases r1 with
    | tup h1 h2 =>
      obtain ⟨u, h3, h4⟩ := atI_rp h2 h
      exact ⟨_, _, i, u, rfl, rp_int r2, e2.fr.ext.t (x2.t h1), h3, q u F2 H2 (x1.trans x2) e2 (h4.mono x2)⟩⟩⟩
theorem pd_ixS {c : Nat} (hl : s.length ≤ 100000) (h : atI s.cps.toList i = some c) (ha : PD X a ρ (.str s) ρ1) (hb : PD X b ρ1 (.int i) ρ2) (hs : PlainIx b := by intro _ _; rfl) : PD X (.Subscript a b pos) ρ (.str ⟨#[c]⟩) ρ2 := PE_imp (pe_ix ix_str ha hb hs) fun σ H Q ⟨C, F, se, q⟩ =>
  ⟨C, F, se, fun v F1 H1 x1 e1 r1 => ⟨C, F1, e1, fun w F2 H2 x2 e2 r2 => ⟨s, i, c, rp_str r1, rp_int r2, line_of hl, h, q _ F2 H2 (x1.trans x2) e2 (.str _)⟩⟩⟩
end
end G

/-! GStmt: statements, blocks, loops, defs in words of data. -/
namespace G
open PySem PySem.Spec PyProof.Rows L2

/-- an exception's own dict -/
def ExRep (K : PySem.W.Frag) (F H : Hp) (d : Option Addr) (fs : List (Str × PyData)) : Prop :=
  match d with
  | none => fs = []
  | some dd => fs ≠ [] ∧ ∃ vs, H dd = some (.xd vs) ∧ KvA K F vs fs
/-- what is wanted behind a statement -/
structure DE where
  nx : En → Prop := fun _ => False
  rt : PyData → En → Prop := fun _ _ => False
  ex : Value → List (Str × PyData) → En → Prop := fun _ _ _ => False
  bk : En → Prop := fun _ => False
  ct : En → Prop := fun _ => False
  rn : Ct → En → Prop := fun _ _ => False
structure Cov (K : PySem.W.Frag) (W : WX) (C : Cn) (D : DE) (E : Ends) : Prop where
  nx : ∀ ρ' F' H' σ', D.nx ρ' → SE K C F' H' σ' ρ' → E.nx σ' H'
  rt : ∀ x ρ' v F' H' σ', D.rt x ρ' → SE K C F' H' σ' ρ' → Rp K F' v x → E.rt v H'
  ex : ∀ c fs ρ' d F' H' σ', D.ex c fs ρ' → SE K C F' H' σ' ρ' → ExRep K F' H' d fs → W c d σ' H'
  bk : ∀ ρ' F' H' σ', D.bk ρ' → SE K C F' H' σ' ρ' → E.bk σ' H'
  ct : ∀ ρ' F' H' σ', D.ct ρ' → SE K C F' H' σ' ρ' → E.ct σ' H'
  rn : ∀ c ρ' p F' H' σ', D.rn c ρ' → SE K C F' H' σ' ρ' → F' p = none → C.H0 p = none → Own1 K F' H' p c → E.rt (.ref p) H'
def tD (K : PySem.W.Frag) (W : WX) (ρ : En) (D : DE) : TS := fun E σ H => ∃ C F, SE K C F H σ ρ ∧ Cov K W C D E
abbrev SD (X : Cx) (W : WX) (st : Stmt) (ρ : En) (D : DE) : Prop := PS X st (tD X.K W ρ D)
abbrev BD (X : Cx) (W : WX) (sts : List Stmt) (ρ : En) (D : DE) : Prop := PSs X sts (tD X.K W ρ D)

section
variable {X : Cx} {W : WX} {e a b c : Expr} {es : List Expr} {pos pos' : Pos} {ρ ρ' ρ1 ρ2 ρ3 : En} {x y z : PyData} {xs ys : List PyData} {st : Stmt} {rest A B body : List Stmt} {D : DE} {k : Bool} {i j : Nat} {w : Str}

/-! ### blocks -/
theorem bd_nil (h : D.nx ρ) : BD X W [] ρ D := PSs_imp pss_nil fun E σ H ⟨C, F, se, cv⟩ => cv.nx ρ F H σ h se
theorem bd_cut (M : En → Prop) (h1 : SD X W st ρ { D with nx := M }) (h2 : ∀ ρ1, M ρ1 → BD X W rest ρ1 D) : BD X W (st :: rest) ρ D := by
  have h2' : PSs X rest (fun E σ H => ∃ p : { ρ1 // M ρ1 }, tD X.K W p.1 D E σ H) := PSs_ex fun p => h2 p.1 p.2
  exact PSs_imp (pss_cons h1 h2') fun E σ H ⟨C, F, se, cv⟩ => ⟨C, F, se, ⟨fun ρ' F' H' σ' m s => ⟨⟨ρ', m⟩, C, F', s, cv⟩, cv.rt, cv.ex, cv.bk, cv.ct, cv.rn⟩⟩
theorem bd_seq (h1 : SD X W st ρ { D with nx := fun r => r = ρ1 }) (h2 : BD X W rest ρ1 D) : BD X W (st :: rest) ρ D := bd_cut (fun r => r = ρ1) h1 fun _ q => by subst q; exact h2
theorem bd_one (h1 : SD X W st ρ D) : BD X W [st] ρ D := pss_one h1
/-- less is known ahead, more is wanted behind -/
theorem tD_le {K : PySem.W.Frag} {E : Ends} {σ : L2.St} {H : Hp} (h : Le ρ' ρ) (t : tD K W ρ D E σ H) : tD K W ρ' D E σ H := by
  obtain ⟨C, F, se, cv⟩ := t
  exact ⟨C, F, se.le h, cv⟩
theorem bd_le (h : Le ρ' ρ) (b : BD X W rest ρ' D) : BD X W rest ρ D := PSs_imp b fun E σ H t => tD_le h t
theorem sd_le (h : Le ρ' ρ) (b : SD X W st ρ' D) : SD X W st ρ D := PS_imp b fun E σ H t => tD_le h t
structure DE.Le (D D' : DE) : Prop where
  nx : ∀ ρ, D.nx ρ → D'.nx ρ := by intro _ h; exact h
  rt : ∀ x ρ, D.rt x ρ → D'.rt x ρ := by intro _ _ h; exact h
  ex : ∀ c f ρ, D.ex c f ρ → D'.ex c f ρ := by intro _ _ _ h; exact h
  bk : ∀ ρ, D.bk ρ → D'.bk ρ := by intro _ h; exact h
  ct : ∀ ρ, D.ct ρ → D'.ct ρ := by intro _ h; exact h
  rn : ∀ c ρ, D.rn c ρ → D'.rn c ρ := by intro _ _ h; exact h
theorem Cov.le {K : PySem.W.Frag} {C : Cn} {E : Ends} {D D' : DE} (l : D.Le D') (h : Cov K W C D' E) : Cov K W C D E :=
  ⟨fun r _ _ _ q => h.nx r _ _ _ (l.nx r q), fun x r _ _ _ _ q => h.rt x r _ _ _ _ (l.rt x r q), fun c f r _ _ _ _ q => h.ex c f r _ _ _ _ (l.ex c f r q), fun r _ _ _ q => h.bk r _ _ _ (l.bk r q), fun r _ _ _ q => h.ct r _ _ _ (l.ct r q), fun c r p _ _ _ q => h.rn c r p _ _ _ (l.rn c r q)⟩
theorem sd_post {D' : DE} (l : D.Le D') (h : SD X W st ρ D) : SD X W st ρ D' := PS_imp h fun E σ H ⟨C, F, se, cv⟩ => ⟨C, F, se, cv.le l⟩
theorem bd_post {D' : DE} (l : D.Le D') (h : BD X W rest ρ D) : BD X W rest ρ D' := PSs_imp h fun E σ H ⟨C, F, se, cv⟩ => ⟨C, F, se, cv.le l⟩

/-! ### small statements -/
theorem sd_pass (h : D.nx ρ) : SD X W (.Pass pos) ρ D := PS_imp ps_pass fun E σ H ⟨C, F, se, cv⟩ => cv.nx ρ F H σ h se
theorem sd_break (h : D.bk ρ) : SD X W (.Break pos) ρ D := PS_imp ps_break fun E σ H ⟨C, F, se, cv⟩ => cv.bk ρ F H σ h se
theorem sd_cont (h : D.ct ρ) : SD X W (.Continue pos) ρ D := PS_imp ps_continue fun E σ H ⟨C, F, se, cv⟩ => cv.ct ρ F H σ h se
theorem sd_ret (he : PD X e ρ x ρ1) (h : D.rt x ρ1) : SD X W (.Return (some e) pos) ρ D := PS_imp (ps_ret he) fun E σ H ⟨C, F, se, cv⟩ => ⟨C, F, se, fun v F1 H1 _ e1 r1 => cv.rt x ρ1 v F1 H1 σ h e1 r1⟩
/-- a new object is given back -/
theorem sd_retO {c : Ct} (he : PN X e ρ c ρ1) (h : D.rn c ρ1) : SD X W (.Return (some e) pos) ρ D := PS_imp (ps_ret he) fun E σ H ⟨C, F, se, cv⟩ => ⟨C, F, se, fun p F1 H1 _ e1 fp h0 _ r1 => cv.rn c ρ1 p F1 H1 σ h e1 fp h0 r1⟩
/-- .. that a name holds -/
theorem sd_retV {c : Ct} (i : Nat) (h0 : ρ[i]? = some (.o none c)) (h : D.rn c ρ) (hN : X.N[i]? = some w := by rfl) (hv : Vis X.env.scope w := by first | exact Or.inl rfl | exact Or.inr (Or.inl rfl) | exact Or.inr (Or.inr rfl)) (hd : (w == ("__debug__" : Str)) = false := by decide) (hcd : (w == ("__classdict__" : Str)) = false := by decide) : SD X W (.Return (some (.Name w pos')) pos) ρ D :=
  PS_imp (ps_ret (pe_var hN hv hd hcd)) fun E σ H ⟨C, F, se, cv⟩ => by
    obtain ⟨l, a1, _, a3, a4⟩ := se.getO h0
    exact ⟨.ref l, a1, cv.rn c ρ l F H σ h se (se.own i l a4).1 (se.fresh i l c h0 a1) a3⟩
/-- a list that a name owns becomes data, as it is read -/
theorem pd_thaw {xs : List PyData} (i : Nat) (h0 : ρ[i]? = some (.ol xs)) (hN : X.N[i]? = some w := by rfl) (hv : Vis X.env.scope w := by first | exact Or.inl rfl | exact Or.inr (Or.inl rfl) | exact Or.inr (Or.inr rfl)) (hd : (w == ("__debug__" : Str)) = false := by decide) (hcd : (w == ("__classdict__" : Str)) = false := by decide) : PD X (.Name w pos) ρ (.list xs) (ρ.set i (.d (.list xs))) :=
  PE_imp (pe_var hN hv hd hcd) fun σ H Q ⟨C, F, se, q⟩ => by
    obtain ⟨l, a1, _, ⟨vs, a3, a5⟩, a4⟩ := se.getO h0
    have fl := (se.own i l a4).1
    have r : Rp X.K (L2.upd F l (.lst vs)) (.ref l) (.list xs) := .lst (SqL.of upd_same) (a5.mono (.new fl))
    exact ⟨.ref l, a1, q _ _ H (.new fl) (se.thaw h0 a1 a3 r) r⟩
/-- .. ahead of a statement -/
theorem bd_thaw {xs : List PyData} (i : Nat) (h0 : ρ[i]? = some (.ol xs)) (h : BD X W rest (ρ.set i (.d (.list xs))) D) : BD X W rest ρ D := PSs_imp h fun E σ H ⟨C, F, se, cv⟩ => by
    obtain ⟨l, a1, _, ⟨vs, a3, a5⟩, a4⟩ := se.getO h0
    have fl := (se.own i l a4).1
    have r : Rp X.K (L2.upd F l (.lst vs)) (.ref l) (.list xs) := .lst (SqL.of upd_same) (a5.mono (.new fl))
    exact ⟨C, _, se.thaw h0 a1 a3 r, cv⟩
theorem sd_retN (h : D.rt .none ρ) : SD X W (.Return none pos) ρ D := PS_imp ps_retN fun E σ H ⟨C, F, se, cv⟩ => cv.rt _ ρ _ F H σ h se .non
theorem sd_expr (he : PD X e ρ x ρ1) (h : D.nx ρ1) (hs : swapsWith e none pos.line X.env = pure false := by rfl) : SD X W (.Expr e pos) ρ D := PS_imp (ps_expr he hs) fun E σ H ⟨C, F, se, cv⟩ => ⟨C, F, se, fun v F1 H1 _ e1 r1 => cv.nx ρ1 F1 H1 σ h e1⟩
theorem sd_if (hc : TD X c ρ k ρ1) (ha : k = true → BD X W A ρ1 D) (hb : k = false → BD X W B ρ1 D) : SD X W (.If c A B pos) ρ D := by
  have nv : ∀ sts, PSs X sts (fun _ _ _ => False) := fun sts => ⟨fun _ _ _ _ _ _ h => h.elim⟩
  cases k with
  | true => exact PS_imp (ps_if hc (ha rfl) (nv B)) fun E σ H ⟨C, F, se, cv⟩ => ⟨C, F, se, fun F1 H1 x1 e1 => iteT ⟨C, F1, e1, cv⟩⟩
  | false => exact PS_imp (ps_if hc (nv A) (hb rfl)) fun E σ H ⟨C, F, se, cv⟩ => ⟨C, F, se, fun F1 H1 x1 e1 => iteF ⟨C, F1, e1, cv⟩⟩
/-- a guard: it ends -/
theorem bd_guard (hc : TD X c ρ k ρ1) (ha : k = true → BD X W A ρ1 { D with nx := fun _ => False }) (hb : k = false → BD X W rest ρ1 D) : BD X W (.If c A [] pos :: rest) ρ D :=
  bd_cut (fun r => r = ρ1 ∧ k = false) (sd_if hc (fun q => bd_post (D := { D with nx := fun _ => False }) { nx := fun _ z => False.elim z } (ha q)) fun q => bd_nil ⟨rfl, q⟩) fun _ q => by
    obtain ⟨rfl, q⟩ := q
    exact hb q
/-- x = e, e data -/
theorem sd_set (i : Nat) (he : PD X e ρ x ρ1) (h : D.nx (ρ1.set i (.d x))) (hN : X.N.Nodup) (hi : X.N[i]? = some w := by rfl) (hx : Loc X.env.scope w := by first | exact Or.inl rfl | exact Or.inr rfl)
    (hf : X.fn w = true ∨ X.env.scope.names.lookup w = some .local := by first | exact .inl rfl | exact .inr rfl) (hs : swapsWith e (some (.Name w pos')) pos.line X.env = pure false := by rfl) : SD X W (.Assign [.Name w pos'] e pos) ρ D :=
  PS_imp (ps_set hN hi hx he hs hf) fun E σ H ⟨C, F, se, cv⟩ => ⟨C, F, se, fun v F1 H1 _ e1 r1 => cv.nx _ F1 H1 _ h (e1.setD r1)⟩
/-- x = e, e a new object that the body goes on changing -/
theorem sd_setN (i : Nat) {s : Ct} (he : PN X e ρ s ρ1) (h : D.nx (ρ1.set i (.o none s))) (hN : X.N.Nodup) (hi : X.N[i]? = some w := by rfl) (hx : Loc X.env.scope w := by first | exact Or.inl rfl | exact Or.inr rfl)
    (hf : X.fn w = true ∨ X.env.scope.names.lookup w = some .local := by first | exact .inl rfl | exact .inr rfl) (hs : swapsWith e (some (.Name w pos')) pos.line X.env = pure false := by rfl) : SD X W (.Assign [.Name w pos'] e pos) ρ D :=
  PS_imp (ps_set hN hi hx he hs hf) fun E σ H ⟨C, F, se, cv⟩ => ⟨C, F, se, fun p F1 H1 _ e1 fp h0 no r1 => cv.nx _ F1 H1 _ h (e1.setOwn fp h0 no r1)⟩
/-- found.append(e) -/
theorem sd_append (i : Nat) {o : Str} {p1 p2 p3 : Pos} {pa pb : Option Addr} (h0 : ρ[i]? = some (.o pa (.l ys))) (he : PD X e ρ x ρ1) (h1 : ρ1[i]? = some (.o pb (.l xs))) (hl : xs.length < 100000) (h : D.nx (ρ1.set i (.o pb (.l (xs ++ [x])))))
    (hN : X.N[i]? = some o := by rfl) (hv : Vis X.env.scope o := by first | exact Or.inl rfl | exact Or.inr (Or.inl rfl) | exact Or.inr (Or.inr rfl)) (hd : (o == ("__debug__" : Str)) = false := by decide) (hcd : (o == ("__classdict__" : Str)) = false := by decide)
    (hbase : attributeBase (.Name o p1) "append" X.env (eval (.Name o p1) X.env) = eval (.Name o p1) X.env := by rfl)
    (hfew : ((backTo p3 (starEach [e] X.env)).all (fun x => !x.1) && (backToKw p3 (keywordEach [] X.env)).all (fun x => x.1.isSome)
      && decide ([e].length + ([] : List Keyword).length + (if ([] : List Keyword).isEmpty then 0 else 1) < 30)) = true := by rfl)
    (hline : (p2.endLine == p3.line) = true := by rfl) (hs : starEach [e] X.env = (false, eval e X.env) :: starEach [] X.env := by rfl)
    (hsw : swapsWith (.Call (.Attribute (.Name o p1) "append" p2) [e] [] p3) none pos.line X.env = pure false := by rfl) :
    SD X W (.Expr (.Call (.Attribute (.Name o p1) "append" p2) [e] [] p3) pos) ρ D := by
  refine PS_imp (ps_expr (pe_bm PySem.F.plainAttrs_list PySem.F.slot_list_append PySem.F.type_list_append mt_append (pe_var hN hv hd hcd) (pa_cons he pa_nil hs) hbase hfew hline hs (by rfl)) hsw) fun E σ H ⟨C, F, se, cv⟩ => ?_
  obtain ⟨l, a1, _, ⟨vs, a2, a3⟩, a4⟩ := se.getO h0
  refine ⟨.ref l, a1, .inl ⟨rfl, vs, SqL.of a2⟩, C, F, se, fun v F1 H1 x1 e1 r1 => ?_⟩
  obtain ⟨l', b1, _, ⟨us, b2, b3⟩, b4⟩ := e1.getO h1
  rw [a1] at b1
  cases b1
  refine ⟨l, us, v, rfl, rfl, b2, by rw [b3.length]; exact line_lt hl, cv.nx _ F1 _ _ h ?_⟩
  exact e1.wr h1 a1 ⟨us ++ [v], upd_same, b3.append (.cons r1 .nil)⟩
/-- xs[j] = e, xs a name that owns its list -/
theorem sd_setix (i : Nat) {o : Str} {p1 p2 : Pos} {pa pb : Option Addr} {ix : Int} {n : Nat} (he : PD X e ρ x ρ1) (h0 : ρ1[i]? = some (.o pa (.l ys))) (hix : PD X a ρ1 (.int ix) ρ2) (h1 : ρ2[i]? = some (.o pb (.l xs))) (hn : ixN xs.length ix = some n) (h : D.nx (ρ2.set i (.o pb (.l (xs.set n x)))))
    (hN : X.N[i]? = some o := by rfl) (hv : Vis X.env.scope o := by first | exact Or.inl rfl | exact Or.inr (Or.inl rfl) | exact Or.inr (Or.inr rfl)) (hd : (o == ("__debug__" : Str)) = false := by decide) (hcd : (o == ("__classdict__" : Str)) = false := by decide)
    (hg : ∀ v, assign (.Subscript (.Name o p1) a p2) X.env v = (do
      let ov ← holding [v] (eval (.Name o p1) X.env)
      let iv ← holding [v, ov] (eval a X.env)
      standAt p2
      holding [v, ov, iv] (setItem ov iv v)
      release [v, ov, iv] []) := by intro _; rfl)
    (hs : swapsWithSole [.Subscript (.Name o p1) a p2] e pos.line X.env = pure false := by rfl) (hw : swappedStores [.Subscript (.Name o p1) a p2] e X.env = pure none := by rfl)
    (hm : (assignEach [.Subscript (.Name o p1) a p2] X.env).map (·.2) = [assign (.Subscript (.Name o p1) a p2) X.env] := by rfl) :
    SD X W (.Assign [.Subscript (.Name o p1) a p2] e pos) ρ D := by
  refine PS_imp (ps_asg he (pg_sub (pe_var hN hv hd hcd) hix set_list hg) hs hw hm) fun E σ H ⟨C, F, se, cv⟩ => ?_
  refine ⟨C, F, se, fun v F1 H1 x1 e1 r1 => ?_⟩
  obtain ⟨l, a1, _, ⟨vs, a2, a3⟩, a4⟩ := e1.getO h0
  refine ⟨.ref l, a1, C, F1, e1, fun u F2 H2 x2 e2 r2 => ?_⟩
  obtain ⟨l', b1, _, ⟨us, b2, b3⟩, b4⟩ := e2.getO h1
  rw [a1] at b1
  cases b1
  refine ⟨l, us, ix, n, rfl, rp_int r2, b2, by rw [b3.length]; exact hn, cv.nx _ F2 _ _ h ?_⟩
  exact e2.wr h1 a1 ⟨us.set n v, upd_same, b3.set n (r1.mono x2)⟩

/-! ### targets -/
def tG (K : PySem.W.Frag) (d : PyData) (ρ ρ' : En) : TG := fun v σ H Q => ∃ C F, SE K C F H σ ρ ∧ Rp K F v d ∧ ∀ σ' F' H', Ex F F' → SE K C F' H' σ' ρ' → Q σ' H'
abbrev GD (X : Cx) (tg : Expr) (d : PyData) (ρ ρ' : En) : Prop := PG X tg (tG X.K d ρ ρ')
def tGs (K : PySem.W.Frag) (ds : List PyData) (ρ ρ' : En) : TGs := fun vs σ H Q => ∃ C F, SE K C F H σ ρ ∧ RpA K F vs ds ∧ ∀ σ' F' H', Ex F F' → SE K C F' H' σ' ρ' → Q σ' H'
abbrev GsD (X : Cx) (tg : List Expr) (d : List PyData) (ρ ρ' : En) : Prop := PGs X tg (tGs X.K d ρ ρ')
theorem PG_imp {t t' : TG} (h : PG X e t) (i : ∀ v σ H Q, t' v σ H Q → t v σ H Q) : PG X e t' := ⟨fun pins s σ H v u Q I r q => h.run pins s σ H v u Q I r (i _ _ _ _ q)⟩
theorem PGs_imp {t t' : TGs} (h : PGs X es t) (i : ∀ v σ H Q, t' v σ H Q → t v σ H Q) : PGs X es t' := ⟨fun pins s σ H v u Q I r q => h.run pins s σ H v u Q I r (i _ _ _ _ q)⟩
theorem PG_ex {ι : Type} {t : ι → TG} (h : ∀ i, PG X e (t i)) : PG X e (fun v σ H Q => ∃ i, t i v σ H Q) := ⟨fun pins s σ H v u Q I r ⟨i, q⟩ => (h i).run pins s σ H v u Q I r q⟩
theorem gd_name (i : Nat) (hN : X.N.Nodup) (hi : X.N[i]? = some w := by rfl) (hx : Loc X.env.scope w := by first | exact Or.inl rfl | exact Or.inr rfl)
    (hf : X.fn w = true ∨ X.env.scope.names.lookup w = some .local := by first | exact .inl rfl | exact .inr rfl) : GD X (.Name w pos) x ρ (ρ.set i (.d x)) := PG_imp (pg_name hN hi hx hf) fun v σ H Q ⟨C, F, se, r, q⟩ => q _ F H (.refl _) (se.setD r)
theorem gsd_nil : GsD X [] [] ρ ρ := PGs_imp pgs_nil fun v σ H Q ⟨C, F, se, r, q⟩ => ⟨by cases r; rfl, q _ F H (.refl _) se⟩
theorem gsd_cons (h : GD X e x ρ ρ1) (hr : GsD X es xs ρ1 ρ2) (hs : (assignEach (e :: es) X.env).map (·.2) = assign e X.env :: (assignEach es X.env).map (·.2) := by rfl) : GsD X (e :: es) (x :: xs) ρ ρ2 := PGs_imp (pgs_cons h hr hs) fun v σ H Q ⟨C, F, se, r, q⟩ => by
  cases r with
  | cons r1 r2 => exact ⟨_, _, rfl, C, F, se, r1, fun σ1 F1 H1 x1 e1 => ⟨C, F1, e1, r2.mono x1, fun σ2 F2 H2 x2 e2 => q σ2 F2 H2 (x1.trans x2) e2⟩⟩
theorem gd_tup {kk : Nat} (hc : X.calm = true) (h : GsD X es xs ρ ρ') (hn : (assignEach es X.env).length = xs.length := by rfl) (hst : (assignEach es X.env).findIdx? (·.1) = none := by rfl) : GD X (.Tuple es kk pos) (.tuple xs) ρ ρ' := PG_imp (pg_tup hc h hn hst) fun v σ H Q ⟨C, F, se, r, q⟩ => by
  cases r with
  | tup h1 h2 => exact ⟨_, _, rfl, se.fr.ext.t h1, h2.length, C, F, se, h2, q⟩
/-- a, b = e -/
theorem sd_unpack (he : PD X e ρ x ρ1) (hg : GD X a x ρ1 ρ2) (h : D.nx ρ2) (hs : swapsWithSole [a] e pos.line X.env = pure false := by rfl) (hw : swappedStores [a] e X.env = pure none := by rfl)
    (h1 : (assignEach [a] X.env).map (·.2) = [assign a X.env] := by rfl) : SD X W (.Assign [a] e pos) ρ D := PS_imp (ps_asg he hg hs hw h1) fun E σ H ⟨C, F, se, cv⟩ =>
  ⟨C, F, se, fun v F1 H1 _ e1 r1 => ⟨C, F1, e1, r1, fun σ2 F2 H2 _ e2 => cv.nx ρ2 F2 H2 σ2 h e2⟩⟩

/-! ### what is walked -/
/-- the items that come, as long as ok holds of the slots -/
structure Wk (K : PySem.W.Frag) (F0 : Hp) (σ0 : L2.St) (J : It) (its : List PyData) (ok : En → Prop) (own : Option Nat) : Prop where
  go : ∀ i C F H σ ρ, Ex F0 F → SE K C F H σ ρ → ok ρ → (∀ j, own = some j → σ[j]? = σ0[j]?) → i < its.length → J.go i H
  stop : ∀ C F H σ ρ, Ex F0 F → SE K C F H σ ρ → ok ρ → (∀ j, own = some j → σ[j]? = σ0[j]?) → J.stop its.length H
  yld : ∀ i C F H σ ρ v H1, Ex F0 F → SE K C F H σ ρ → ok ρ → (∀ j, own = some j → σ[j]? = σ0[j]?) → i < its.length → J.yld i H v H1 → ∃ d F1, its[i]? = some d ∧ Ex F F1 ∧ SE K C F1 H1 σ ρ ∧ Rp K F1 v d
def tI (K : PySem.W.Frag) (ρ : En) (its : List PyData) (ok : En → Prop) (own : Option Nat) (ρ' : En) : TI := fun σ H R => ∃ C F, SE K C F H σ ρ ∧ ∀ J F' H', Ex F F' → SE K C F' H' σ ρ' → Wk K F' σ J its ok own → R J H'
abbrev ID (X : Cx) (tg iter : Expr) (ρ : En) (its : List PyData) (ok : En → Prop) (own : Option Nat) (ρ' : En) : Prop := PI X tg iter (tI X.K ρ its ok own ρ')
theorem PI_imp {tg : Expr} {t t' : TI} (h : PI X tg e t) (i : ∀ σ H Q, t' σ H Q → t σ H Q) : PI X tg e t' := ⟨fun pins s σ H Q I q => h.run pins s σ H Q I (i _ _ _ q)⟩
theorem id_list {tg : Expr} {src : Option Nat} (h : PQ X e ρ src xs ρ') (ok' : SrcOk ρ' src xs) : ID X tg e ρ xs (fun r => SrcOk r src xs) src ρ' := PI_imp (pi_list h) fun σ H R ⟨C, F, se, q⟩ => by
  refine ⟨C, F, se, fun v F1 H1 x1 e1 s1 => ?_⟩
  obtain ⟨a, vs, rfl, l1, r1⟩ := s1.look e1 ok'
  have key : ∀ C F2 H2 σ2 ρ2, Ex F1 F2 → SE X.K C F2 H2 σ2 ρ2 → SrcOk ρ2 src xs → (∀ j, src = some j → σ2[j]? = σ[j]?) → ∃ us, SqL X.K H2 a us ∧ RpA X.K F2 us xs := fun C F2 H2 σ2 ρ2 x2 e2 ok2 hs => by
    have s2 : SrcV X.K F2 σ2 src (.ref a) xs := by
      cases src with
      | none => exact SrcV.mono (σ := σ) (src := none) x2 s1
      | some j =>
        obtain ⟨b, eb, hb⟩ := s1
        cases eb
        exact ⟨a, rfl, by rw [hs j rfl]; exact hb⟩
    obtain ⟨b, us, eb, l2, r2⟩ := s2.look e2 ok2
    cases eb
    exact ⟨us, l2, r2⟩
  refine ⟨a, rfl, ⟨vs, l1⟩, q _ F1 H1 x1 e1 ⟨fun i C F2 H2 σ2 ρ2 x2 e2 ok2 hs hi => ?_, fun C F2 H2 σ2 ρ2 x2 e2 ok2 hs => ?_, fun i C F2 H2 σ2 ρ2 v H3 x2 e2 ok2 hs hi y => ?_⟩⟩
  · obtain ⟨us, l2, r2⟩ := key C F2 H2 σ2 ρ2 x2 e2 ok2 hs
    have hl := r2.length
    exact walk_list.goes i H2 (by rw [hl]; exact hi) l2
  · obtain ⟨us, l2, r2⟩ := key C F2 H2 σ2 ρ2 x2 e2 ok2 hs
    rw [← r2.length]
    exact walk_list.stops H2 l2
  · obtain ⟨us, l2, r2⟩ := key C F2 H2 σ2 ρ2 x2 e2 ok2 hs
    obtain ⟨rfl, h3⟩ := walk_list.yields i H2 v H3 (by rw [r2.length]; exact hi) l2 y
    obtain ⟨d, h4, h5⟩ := r2.getV h3
    exact ⟨d, F2, h4, .refl _, e2, h5⟩
theorem id_tup {tg : Expr} (h : PD X e ρ (.tuple xs) ρ') : ID X tg e ρ xs (fun _ => True) none ρ' := PI_imp (pi_tup h) fun σ H R ⟨C, F, se, q⟩ => by
  refine ⟨C, F, se, fun v F1 H1 x1 e1 r1 => ?_⟩
  cases r1 with
  | @tup a vs _ h1 h2 =>
    refine ⟨a, rfl, ⟨vs, e1.fr.ext.t h1⟩, q _ F1 H1 x1 e1 ⟨fun i C F2 H2 σ2 ρ2 x2 e2 ok2 hs hi => ?_, fun C F2 H2 σ2 ρ2 x2 e2 ok2 hs => ?_, fun i C F2 H2 σ2 ρ2 v H3 x2 e2 ok2 hs hi y => ?_⟩⟩
    · exact walk_tup.goes i H2 (by rw [h2.length]; exact hi) (e2.fr.ext.t (x2.t h1))
    · rw [← h2.length]; exact walk_tup.stops H2 (e2.fr.ext.t (x2.t h1))
    · obtain ⟨rfl, h3⟩ := walk_tup.yields i H2 v H3 (by rw [h2.length]; exact hi) (e2.fr.ext.t (x2.t h1)) y
      obtain ⟨d, h4, h5⟩ := h2.getV h3
      exact ⟨d, F2, h4, .refl _, e2, h5.mono x2⟩
/-- the ints of a range -/
def rgD (lo : Int) (n : Nat) : List PyData := (List.range n).map fun i => .int (lo + (i : Nat))
theorem rgD_get {lo : Int} {n i : Nat} (h : i < n) : (rgD lo n)[i]? = some (.int (lo + (i : Nat))) := by
  unfold rgD; rw [List.getElem?_map, List.getElem?_range h]; rfl
theorem rgD_len {lo : Int} {n : Nat} : (rgD lo n).length = n := by unfold rgD; rw [List.length_map, List.length_range]
theorem wk_range {K : PySem.W.Frag} {F0 : Hp} {σ0 : L2.St} {lo : Int} {n : Nat} : Wk K F0 σ0 (Itr lo n) (rgD lo n) (fun _ => True) none :=
  ⟨fun i _ F H σ ρ _ _ _ _ hi => walk_range.goes i H (by rw [rgD_len] at hi; exact hi) trivial, fun _ F H σ ρ _ _ _ _ => by rw [rgD_len]; exact walk_range.stops H trivial, fun i _ F H σ ρ v H1 _ e _ _ hi y => by
    rw [rgD_len] at hi
    obtain ⟨rfl, rfl⟩ := walk_range.yields i H v H1 hi trivial y
    exact ⟨_, F, rgD_get hi, .refl _, e, .int _⟩⟩
theorem id_range1 {tg : Expr} {p : Pos} {n : Int} (hm : X.mg "range" = none) (h : PD X a ρ (.int n) ρ') (h1 : -(2 ^ 62) ≤ n) (h2 : n < 2 ^ 62) (hg : Gl X "range" := by rfl) (hs : starEach [a] X.env = [(false, eval a X.env)] := by rfl) : ID X tg (.Call (.Name "range" p) [a] [] pos) ρ (rgD 0 n.toNat) (fun _ => True) none ρ' :=
  PI_imp (pi_range1 hg hm (ad_cons h ad_nil hs) hs) fun σ H R ⟨C, F, se, q⟩ => ⟨C, F, se, fun vs F1 H1 x1 e1 r1 => by
    cases r1 with
    | cons a1 a2 =>
      cases a2
      rw [rp_int a1]
      exact ⟨n, rfl, h1, h2, q _ F1 H1 x1 e1 wk_range⟩⟩
theorem id_range2 {tg : Expr} {p : Pos} {m n : Int} (hm : X.mg "range" = none) (ha : PD X a ρ (.int m) ρ1) (hb : PD X b ρ1 (.int n) ρ') (h1 : -(2 ^ 62) ≤ m) (h2 : m < 2 ^ 62) (h3 : -(2 ^ 62) ≤ n) (h4 : n < 2 ^ 62) (hg : Gl X "range" := by rfl)
    (hs : starEach [a, b] X.env = [(false, eval a X.env), (false, eval b X.env)] := by rfl) (hs2 : starEach [b] X.env = [(false, eval b X.env)] := by rfl) : ID X tg (.Call (.Name "range" p) [a, b] [] pos) ρ (rgD m (n - m).toNat) (fun _ => True) none ρ' :=
  PI_imp (pi_range2 hg hm (ad_cons ha (ad_cons hb ad_nil hs2) (by rw [hs, hs2])) hs hs2) fun σ H R ⟨C, F, se, q⟩ => ⟨C, F, se, fun vs F1 H1 x1 e1 r1 => by
    cases r1 with
    | cons a1 a2 =>
      cases a2 with
      | cons a2 a3 =>
        cases a3
        rw [rp_int a1, rp_int a2]
        exact ⟨m, n, rfl, ⟨h1, h2, h3, h4⟩, q _ F1 H1 x1 e1 wk_range⟩⟩
/-- a text, sign by sign -/
def sgD (s : Str) : List PyData := s.cps.toList.map fun c => .str ⟨#[c]⟩
theorem id_str {tg : Expr} {s : Str} (h : PD X e ρ (.str s) ρ') : ID X tg e ρ (sgD s) (fun _ => True) none ρ' := PI_imp (pi_str h) fun σ H R ⟨C, F, se, q⟩ => ⟨C, F, se, fun v F1 H1 x1 e1 r1 => by
  have hl : (sgD s).length = s.cps.size := by unfold sgD; rw [List.length_map, Array.length_toList]
  refine ⟨s, rp_str r1, q _ F1 H1 x1 e1 ⟨fun i C F2 H2 σ2 ρ2 x2 e2 ok2 hs hi => ?_, fun C F2 H2 σ2 ρ2 x2 e2 ok2 hs => ?_, fun i C F2 H2 σ2 ρ2 v H3 x2 e2 ok2 hs hi y => ?_⟩⟩
  · exact walk_str.goes i H2 (by rw [hl] at hi; exact hi) trivial
  · rw [hl]; exact walk_str.stops H2 trivial
  · obtain ⟨rfl, c, h3, rfl⟩ := walk_str.yields i H2 v H3 (by rw [hl] at hi; exact hi) trivial y
    exact ⟨.str ⟨#[c]⟩, F2, by unfold sgD; rw [List.getElem?_map, Array.getElem?_toList, h3]; rfl, .refl _, e2, .str _⟩⟩
end
end G

/-! GLoop: loops and comprehensions in words of data. -/
namespace G
open PySem PySem.Spec PyProof.Rows L2

/-- P, of less -/
def Lee (P : En → Prop) (ρ : En) : Prop := ∃ ρ', Le ρ' ρ ∧ P ρ'
theorem Lee.of {P : En → Prop} {ρ : En} (h : P ρ) : Lee P ρ := ⟨ρ, Le.refl ρ, h⟩
section
variable {X : Cx} {W : WX} {e a b c tg iter elt : Expr} {es : List Expr} {pos pos' : Pos} {ρ ρ' ρ1 ρ2 ρ3 : En} {x y z : PyData} {xs ys its : List PyData} {st : Stmt} {rest A B body : List Stmt} {D : DE} {k : Bool} {i j : Nat} {w : Str} {ok : En → Prop}

theorem sd_for (I : Nat → En → Prop) (hp : PassesOwn (model X.prog X.w) X.A X.env X.xe) (hc : X.calm = true) (hi : ID X tg iter ρ its ok none ρ1) (h0 : Lee (I 0) ρ1) (hok : ∀ i ρ', I i ρ' → ok ρ')
    (hs : ∀ i d ρ', its[i]? = some d → I i ρ' → ∃ ρ2, GD X tg d ρ' ρ2 ∧ BD X W body ρ2 { D with nx := Lee (I (i + 1)), ct := Lee (I (i + 1)), bk := D.nx }) (hd : ∀ ρ', I its.length ρ' → D.nx ρ')
    (hf : ∀ x, foldedSetIterable iter X.env x = pure x := by intro _; rfl) : SD X W (.For tg iter body [] pos) ρ D := by
  have cho : ∀ p : { p : Nat × PyData × En // its[p.1]? = some p.2.1 ∧ I p.1 p.2.2 }, ∃ ρ2, GD X tg p.1.2.1 p.1.2.2 ρ2 ∧ BD X W body ρ2 { D with nx := Lee (I (p.1.1 + 1)), ct := Lee (I (p.1.1 + 1)), bk := D.nx } := fun p => hs _ _ _ p.2.1 p.2.2
  have hg := PG_ex fun p => (Classical.choose_spec (cho p)).1
  have hb := PSs_ex fun p => (Classical.choose_spec (cho p)).2
  refine PS_imp (ps_for hp hc hi hg hb hf) fun E σ H ⟨C, F, se, cv⟩ => ?_
  refine ⟨C, F, se, fun J F1 H1 x1 e1 wk => ?_⟩
  refine ⟨fun i m σ H => m = its.length - i ∧ i ≤ its.length ∧ ∃ ρ' F2, Ex F1 F2 ∧ SE X.K C F2 H σ ρ' ∧ I i ρ', ⟨its.length, by simp, Nat.zero_le _, ?_⟩, ?_⟩
  · obtain ⟨ρ', l, i0⟩ := h0
    exact ⟨ρ', F1, .refl _, e1.le l, i0⟩
  rintro i m σ2 H2 ⟨rfl, hle, ρ', F2, x2, e2, i2⟩
  by_cases hlt : i < its.length
  · refine .inr ⟨wk.go i _ F2 H2 σ2 ρ' x2 e2 (hok i ρ' i2) (fun j z => nomatch z) hlt, fun σ' H' => ∃ ρ' F2, Ex F1 F2 ∧ SE X.K C F2 H' σ' ρ' ∧ I (i + 1) ρ', fun σ' H' q => ⟨its.length - (i + 1), by omega, rfl, hlt, q⟩, fun v H3 y => ?_⟩
    obtain ⟨d, F3, hd3, x3, e3, r3⟩ := wk.yld i _ F2 H2 σ2 ρ' v H3 x2 e2 (hok i ρ' i2) (fun j z => nomatch z) hlt y
    refine ⟨⟨(i, d, ρ'), hd3, i2⟩, ⟨F1, C.H0, C.M⟩, F3, ⟨⟨e3.fr.ext, x2.trans x3, e3.fr.h0, e3.fr.there, ?_, e3.fr.mM⟩, e3.len, e3.ok, e3.sep, e3.own, e3.fresh⟩, r3, fun σ4 F4 H4 x4 e4 => ?_⟩
    · intro a ha z
      refine e3.fr.new a ha ?_
      cases q : C.F0 a with
      | none => rfl
      | some o =>
        have z' : F1 a = none := z
        rw [show F1 a = some o from e1.fr.f0 a o q] at z'; cases z'
    · refine ⟨⟨(i, d, ρ'), hd3, i2⟩, ⟨F1, C.H0, C.M⟩, F4, e4, ?_⟩
      have again : ∀ ρ5 F5 H5 σ5, Lee (I (i + 1)) ρ5 → SE X.K ⟨F1, C.H0, C.M⟩ F5 H5 σ5 ρ5 → ∃ ρ' F2, Ex F1 F2 ∧ SE X.K C F2 H5 σ5 ρ' ∧ I (i + 1) ρ' := fun ρ5 F5 H5 σ5 ⟨ρ6, l, i6⟩ e5 => ⟨ρ6, F5, e5.fr.f0, (e5.unbase e1.fr).le l, i6⟩
      exact ⟨fun r F5 H5 σ5 q e5 => again r F5 H5 σ5 q e5, fun x r v F5 H5 σ5 q e5 r5 => cv.rt x r v F5 H5 σ5 q (e5.unbase e1.fr) r5, fun c f r d F5 H5 σ5 q e5 r5 => cv.ex c f r d F5 H5 σ5 q (e5.unbase e1.fr) r5,
        fun r F5 H5 σ5 q e5 => cv.nx r F5 H5 σ5 q (e5.unbase e1.fr), fun r F5 H5 σ5 q e5 => again r F5 H5 σ5 q e5, fun c r p F5 H5 σ5 q e5 f5 h5 o5 => cv.rn c r p F5 H5 σ5 q (e5.unbase e1.fr) f5 h5 o5⟩
  · have q : i = its.length := by omega
    subst q
    exact .inl ⟨wk.stop _ F2 H2 σ2 ρ' x2 e2 (hok _ ρ' i2) (fun j z => nomatch z), cv.nx ρ' F2 H2 σ2 (hd ρ' i2) e2⟩

/-- while: I by the slots, a measure of the state it stands for -/
theorem sd_while {S : Type} (sh : S → En) (P : S → Prop) (μ : S → Nat) (cnd : S → Bool) (hp : PassesOwn (model X.prog X.w) X.A X.env X.xe) (h0 : ∃ s, Le (sh s) ρ ∧ P s)
    (hc : ∀ s, P s → TD X c (sh s) (cnd s) (sh s)) (hb : ∀ s, P s → cnd s = true → BD X W body (sh s) { D with nx := Lee (fun r => ∃ s', r = sh s' ∧ P s' ∧ μ s' < μ s), ct := Lee (fun r => ∃ s', r = sh s' ∧ P s' ∧ μ s' < μ s), bk := D.nx })
    (hd : ∀ s, P s → cnd s = false → D.nx (sh s)) : SD X W (.While c body [] pos) ρ D := by
  have hc' := PT_ex fun p : { s // P s } => hc p.1 p.2
  have hb' := PSs_ex fun p : { s // P s ∧ cnd s = true } => hb p.1 p.2.1 p.2.2
  refine PS_imp (ps_while hp hc' hb') fun E σ H ⟨C, F, se, cv⟩ => ?_
  obtain ⟨s0, l0, p0⟩ := h0
  refine ⟨fun m σ H => ∃ s F, P s ∧ m = μ s ∧ SE X.K C F H σ (sh s), ⟨μ s0, s0, F, p0, rfl, se.le l0⟩, ?_⟩
  rintro m σ1 H1 ⟨s, F1, p, rfl, e1⟩
  refine ⟨⟨s, p⟩, C, F1, e1, fun F2 H2 x2 e2 => ?_⟩
  cases q : cnd s with
  | true =>
    refine iteT ⟨fun σ' H' => ∃ s' F', P s' ∧ μ s' < μ s ∧ SE X.K C F' H' σ' (sh s'), fun σ' H' ⟨s', F', a, b, d⟩ => ⟨μ s', b, s', F', a, rfl, d⟩, ⟨s, p, q⟩, C, F2, e2, ?_⟩
    have again : ∀ ρ5 F5 H5 σ5, Lee (fun r => ∃ s', r = sh s' ∧ P s' ∧ μ s' < μ s) ρ5 → SE X.K C F5 H5 σ5 ρ5 → ∃ s' F', P s' ∧ μ s' < μ s ∧ SE X.K C F' H5 σ5 (sh s') := fun ρ5 F5 H5 σ5 ⟨ρ6, l, s', h1, h2, h3⟩ e5 => ⟨s', F5, h2, h3, by rw [← h1]; exact e5.le l⟩
    exact ⟨again, cv.rt, cv.ex, cv.nx, again, cv.rn⟩
  | false => exact iteF (cv.nx _ F2 H2 σ1 (hd s p q) e2)

/-! ### comprehensions -/
def wipeE (ρ : En) : List Nat → En
  | [] => ρ
  | v :: vs => (wipeE ρ vs).set v .un
theorem wipeE_len (ρ : En) : ∀ vs, (wipeE ρ vs).length = ρ.length
  | [] => rfl
  | v :: vs => by unfold wipeE; rw [List.length_set, wipeE_len ρ vs]
theorem wipe_out {σ : L2.St} {i : Nat} : ∀ {vs : List Nat}, i ∉ vs → (wipe σ vs)[i]? = σ[i]?
  | [], _ => rfl
  | v :: vs, h => by
    unfold wipe
    rw [List.getElem?_set_ne (fun q => h (by rw [q]; exact List.mem_cons_self)), wipe_out (fun q => h (List.mem_cons_of_mem _ q))]
theorem wipeE_out {ρ : En} {i : Nat} : ∀ {vs : List Nat}, i ∉ vs → (wipeE ρ vs)[i]? = ρ[i]?
  | [], _ => rfl
  | v :: vs, h => by
    unfold wipeE
    rw [List.getElem?_set_ne (fun q => h (by rw [q]; exact List.mem_cons_self)), wipeE_out (fun q => h (List.mem_cons_of_mem _ q))]
theorem wipeE_in {ρ : En} {i : Nat} {s : Sl} : ∀ {vs : List Nat}, i ∈ vs → (wipeE ρ vs)[i]? = some s → s = .un
  | v :: vs, h, q => by
    unfold wipeE at q
    by_cases hv : v = i
    · subst hv; exact (set_at q).1.symm
    · rw [List.getElem?_set_ne hv] at q
      rcases List.mem_cons.mp h with z | z
      · exact absurd z.symm hv
      · exact wipeE_in z q
theorem wipeE_le (ρ : En) : ∀ vs, Le (wipeE ρ vs) ρ
  | [] => Le.refl ρ
  | v :: vs => by
    have ih := wipeE_le ρ vs
    unfold wipeE
    have key : ∀ {r r' : En} (v : Nat), Le r r' → Le (r.set v .un) r' := fun {r r'} v h => by
      induction h generalizing v with
      | nil => exact .nil
      | un _ ih => cases v with
        | zero => rename_i h'; exact .un h'
        | succ v => exact .un (ih v)
      | eq _ ih => cases v with
        | zero => rename_i h'; exact .un h'
        | succ v => exact .eq (ih v)
    exact key v ih
theorem SE.wipe {K : PySem.W.Frag} {C : Cn} {F H : Hp} {σ : L2.St} (e : SE K C F H σ ρ) (vs : List Nat) : SE K C F H (L2.wipe σ vs) (wipeE ρ vs) :=
  (e.le (wipeE_le ρ vs)).sub (wipe_length σ vs) fun i s hs hn => by
    by_cases q : i ∈ vs
    · exact absurd (wipeE_in q hs) hn
    · exact wipe_out q
/-- the slots at vs as they were -/
def restE (ρ1 ρ' : En) : List Nat → En
  | [] => ρ'
  | v :: vs => (restE ρ1 ρ' vs).set v (match ρ1[v]? with | some (.d x) => .d x | _ => .un)
/-- back from a block -/
theorem SE.back {K : PySem.W.Frag} {C : Cn} {F1 H1 F H : Hp} {σ : L2.St} {vs : List Nat} (e1 : SE K C F1 H1 σ ρ1) (x : Ex F1 F) (e : SE K C F H (L2.wipe σ vs) (wipeE ρ' vs)) : SE K C F H σ (restE ρ1 ρ' vs) ∧ ∀ j a, Owns σ (restE ρ1 ρ' vs) j a → Owns (L2.wipe σ vs) (wipeE ρ' vs) j a := by
  have key : ∀ (ws : List Nat), (∀ v ∈ ws, v ∈ vs) → ∀ (i : Nat) (s : Sl), (restE ρ1 (wipeE ρ' vs) ws)[i]? = some s → (i ∈ ws ∧ ((∃ y, s = .d y ∧ ρ1[i]? = some (.d y)) ∨ s = .un)) ∨ (wipeE ρ' vs)[i]? = some s := by
    intro ws
    induction ws with
    | nil => intro _ i s h; exact .inr h
    | cons v ws ih =>
      intro hv i s h
      unfold restE at h
      by_cases q : v = i
      · subst q
        refine .inl ⟨List.mem_cons_self, ?_⟩
        have z := (set_at h).1
        cases r : ρ1[v]? with
        | none => rw [r] at z; exact .inr z.symm
        | some t =>
          cases t with
          | un => rw [r] at z; exact .inr z.symm
          | d y => rw [r] at z; exact .inl ⟨y, z.symm, rfl⟩
          | v y => rw [r] at z; exact .inr z.symm
          | o p c => rw [r] at z; exact .inr z.symm
      · rw [List.getElem?_set_ne q] at h
        rcases ih (fun u hu => hv u (List.mem_cons_of_mem _ hu)) i s h with ⟨a, b⟩ | a
        · exact .inl ⟨List.mem_cons_of_mem _ a, b⟩
        · exact .inr a
  have lenR : ∀ (ρ'' : En) (ws : List Nat), (restE ρ1 ρ'' ws).length = ρ''.length := fun ρ'' ws => by
    induction ws with
    | nil => rfl
    | cons v ws ih => unfold restE; rw [List.length_set, ih]
  have conv : ∀ j a, Owns σ (restE ρ1 (wipeE ρ' vs) vs) j a → Owns (L2.wipe σ vs) (wipeE ρ' vs) j a := fun j a ⟨h1, t, h2, h3⟩ => by
    rcases key vs (fun _ h => h) j t h2 with ⟨_, ⟨y, rfl, _⟩ | rfl⟩ | z
    · cases h3
    · cases h3
    · refine ⟨?_, t, z, h3⟩
      rw [wipe_out (fun q => by rw [wipeE_in q z] at h3; cases h3)]
      exact h1
  have main : SE K C F H σ (restE ρ1 (wipeE ρ' vs) vs) := by
    refine ⟨e.fr, ?_, fun i s hs => ?_, fun j k a hj hk => e.sep j k a (conv j a hj) (conv k a hk), fun j a hj => e.own j a (conv j a hj), fun j a c h1 h2 => ?_⟩
    · rw [lenR, ← e.len, wipe_length]
    · rcases key vs (fun _ h => h) i s hs with ⟨_, ⟨y, rfl, h1⟩ | rfl⟩ | z
      · obtain ⟨v, a, b⟩ := e1.get h1
        exact ⟨v, by rw [a]; rfl, b.mono x⟩
      · trivial
      · by_cases q : i ∈ vs
        · rw [wipeE_in q z]; trivial
        · have := e.ok i s z
          rw [wipe_out q] at this
          exact this
    · have ow := conv j a ⟨h2, _, h1, rfl⟩
      rcases key vs (fun _ h => h) j _ h1 with ⟨_, ⟨y, q, _⟩ | q⟩ | z
      · cases q
      · cases q
      · exact e.fresh j a c z ow.1
  -- restE over the wiped slots is restE over the slots
  have same : ∀ (ws : List Nat) (v : Nat), v ∈ ws → ∀ ρ'' : En, restE ρ1 (ρ''.set v .un) ws = restE ρ1 ρ'' ws := by
    intro ws
    induction ws with
    | nil => intro v hv; cases hv
    | cons u ws ih =>
      intro v hv ρ''
      unfold restE
      by_cases q : v ∈ ws
      · rw [ih v q]
      · have hvu : v = u := by
          rcases List.mem_cons.mp hv with z | z
          · exact z
          · exact absurd z q
        subst hvu
        have comm : ∀ (zs : List Nat), v ∉ zs → restE ρ1 (ρ''.set v .un) zs = (restE ρ1 ρ'' zs).set v .un := by
          intro zs
          induction zs with
          | nil => intro _; rfl
          | cons t zs ih2 =>
            intro ht
            unfold restE
            rw [ih2 (fun z => ht (List.mem_cons_of_mem _ z)), List.set_comm _ _ (fun z => ht (by rw [z]; exact List.mem_cons_self))]
        rw [comm ws q, List.set_set]
  have all : ∀ ws, (∀ v ∈ ws, v ∈ vs) → restE ρ1 (wipeE ρ' ws) vs = restE ρ1 ρ' vs := by
    intro ws
    induction ws with
    | nil => intro _; rfl
    | cons v ws ih =>
      intro h
      unfold wipeE
      rw [same vs v (h v List.mem_cons_self), ih (fun u hu => h u (List.mem_cons_of_mem _ hu))]
  rw [all vs (fun _ h => h)] at main conv
  exact ⟨main, conv⟩

/-- a target within a block: only the slots at vs are set -/
def tGv (K : PySem.W.Frag) (vs : List Nat) (d : PyData) (ρ ρ' : En) : TG := fun v σ H Q => ∃ C F, SE K C F H σ ρ ∧ Rp K F v d ∧ ∀ σ' F' H', L2.wipe σ' vs = L2.wipe σ vs → Ex F F' → SE K C F' H' σ' ρ' → Q σ' H'
abbrev GV (X : Cx) (vs : List Nat) (tg : Expr) (d : PyData) (ρ ρ' : En) : Prop := PG X tg (tGv X.K vs d ρ ρ')
def tGsv (K : PySem.W.Frag) (vs : List Nat) (ds : List PyData) (ρ ρ' : En) : TGs := fun us σ H Q => ∃ C F, SE K C F H σ ρ ∧ RpA K F us ds ∧ ∀ σ' F' H', L2.wipe σ' vs = L2.wipe σ vs → Ex F F' → SE K C F' H' σ' ρ' → Q σ' H'
abbrev GsV (X : Cx) (vs : List Nat) (tg : List Expr) (d : List PyData) (ρ ρ' : En) : Prop := PGs X tg (tGsv X.K vs d ρ ρ')
theorem wipe_set {σ : L2.St} {v : Nat} {o : Option V} : ∀ {vs : List Nat}, v ∈ vs → L2.wipe (σ.set v o) vs = L2.wipe σ vs
  | u :: vs, h => by
    unfold L2.wipe
    by_cases q : v ∈ vs
    · rw [wipe_set q]
    · have e : v = u := by
        rcases List.mem_cons.mp h with z | z
        · exact z
        · exact absurd z q
      subst e
      have comm : ∀ zs : List Nat, v ∉ zs → L2.wipe (σ.set v o) zs = (L2.wipe σ zs).set v o := by
        intro zs
        induction zs with
        | nil => intro _; rfl
        | cons t zs ih =>
          intro ht
          unfold L2.wipe
          rw [ih (fun z => ht (List.mem_cons_of_mem _ z)), List.set_comm _ _ (fun z => ht (by rw [z]; exact List.mem_cons_self))]
      rw [comm vs q, List.set_set]
theorem wipe_wipe {σ : L2.St} {vs : List Nat} : L2.wipe (L2.wipe σ vs) vs = L2.wipe σ vs := by
  have key : ∀ ws : List Nat, (∀ v ∈ ws, v ∈ vs) → L2.wipe (L2.wipe σ ws) vs = L2.wipe σ vs := by
    intro ws
    induction ws with
    | nil => intro _; rfl
    | cons v ws ih =>
      intro h
      show L2.wipe ((L2.wipe σ ws).set v none) vs = _
      rw [wipe_set (h v List.mem_cons_self), ih fun u hu => h u (List.mem_cons_of_mem _ hu)]
  exact key vs fun _ h => h
theorem gv_name {vs : List Nat} (i : Nat) (hv : i ∈ vs) (hN : X.N.Nodup) (hi : X.N[i]? = some w := by rfl) (hx : Loc X.env.scope w := by first | exact Or.inl rfl | exact Or.inr rfl)
    (hf : X.fn w = true ∨ X.env.scope.names.lookup w = some .local := by first | exact .inl rfl | exact .inr rfl) : GV X vs (.Name w pos) x ρ (ρ.set i (.d x)) := PG_imp (pg_name hN hi hx hf) fun v σ H Q ⟨C, F, se, r, q⟩ => q _ F H (wipe_set hv) (.refl _) (se.setD r)
theorem gsv_nil {vs : List Nat} : GsV X vs [] [] ρ ρ := PGs_imp pgs_nil fun v σ H Q ⟨C, F, se, r, q⟩ => ⟨by cases r; rfl, q _ F H rfl (.refl _) se⟩
theorem gsv_cons {vs : List Nat} (h : GV X vs e x ρ ρ1) (hr : GsV X vs es xs ρ1 ρ2) (hs : (assignEach (e :: es) X.env).map (·.2) = assign e X.env :: (assignEach es X.env).map (·.2) := by rfl) : GsV X vs (e :: es) (x :: xs) ρ ρ2 := PGs_imp (pgs_cons h hr hs) fun v σ H Q ⟨C, F, se, r, q⟩ => by
  cases r with
  | cons r1 r2 => exact ⟨_, _, rfl, C, F, se, r1, fun σ1 F1 H1 w1 x1 e1 => ⟨C, F1, e1, r2.mono x1, fun σ2 F2 H2 w2 x2 e2 => q σ2 F2 H2 (w2.trans w1) (x1.trans x2) e2⟩⟩
theorem gv_tup {vs : List Nat} {kk : Nat} (hc : X.calm = true) (h : GsV X vs es xs ρ ρ') (hn : (assignEach es X.env).length = xs.length := by rfl) (hst : (assignEach es X.env).findIdx? (·.1) = none := by rfl) : GV X vs (.Tuple es kk pos) (.tuple xs) ρ ρ' := PG_imp (pg_tup hc h hn hst) fun v σ H Q ⟨C, F, se, r, q⟩ => by
  cases r with
  | tup h1 h2 => exact ⟨_, _, rfl, se.fr.ext.t h1, h2.length, C, F, se, h2, q⟩


/-! ### the list that is being built: an object that no slot names -/
def Cn.pin (C : Cn) (F : Hp) (p : Addr) (o : HO) : Cn := ⟨F, upd C.H0 p o, C.M⟩
theorem SE.pin {K : PySem.W.Frag} {C : Cn} {F H : Hp} {σ : L2.St} {p : Addr} {o : HO} (e : SE K C F H σ ρ) (h0 : C.H0 p = none) (hp : H p = some o) (no : ∀ j, ¬ Owns σ ρ j p) : SE K (C.pin F p o) F H σ ρ := by
  refine ⟨⟨e.fr.ext, .refl _, fun a u hu m => ?_, fun a ha => ?_, fun _ _ z => z, fun a ha => ?_⟩, e.len, e.ok, e.sep, fun j a hj => ?_, fun j a c h1 h2 => ?_⟩
  · have hu' : upd C.H0 p o a = some u := hu
    by_cases q : a = p
    · rw [q, upd_same] at hu'; rw [q, hp]; exact hu'
    · rw [upd_ne q] at hu'; exact e.fr.h0 a u hu' m
  · show upd C.H0 p o a = none
    rw [upd_ne (fun q => by rw [q, hp] at ha; cases ha)]; exact e.fr.there a ha
  · show upd C.H0 p o a ≠ none
    by_cases q : a = p
    · rw [q, upd_same]; exact fun z => nomatch z
    · rw [upd_ne q]; exact e.fr.mM a ha
  · obtain ⟨x, y, z⟩ := e.own j a hj
    refine ⟨x, y, ?_⟩
    show upd C.H0 p o a = none ∨ a ∈ C.M
    rw [upd_ne (fun q => no j (by rw [← q]; exact hj))]; exact z
  · show upd C.H0 p o a = none
    rw [upd_ne (fun q => no j (by rw [← q]; exact ⟨h2, _, h1, rfl⟩))]; exact e.fresh j a c h1 h2
theorem SE.unpin {K : PySem.W.Frag} {C : Cn} {F1 H1 F H : Hp} {σ : L2.St} {p : Addr} {o : HO} (f : Fr C F1 H1) (h0 : C.H0 p = none) (f1 : F1 p = none) (e : SE K (C.pin F1 p o) F H σ ρ) : SE K C F H σ ρ ∧ F p = none ∧ H p = some o ∧ (∀ j, ¬ Owns σ ρ j p) := by
  have here : (C.pin F1 p o).H0 p = some o := upd_same
  have nm : p ∉ C.M := fun m => f.mM p m h0
  have nes : ∀ a, upd C.H0 p o a = none → a ≠ p ∧ C.H0 a = none := fun a ha => by
    by_cases q : a = p
    · rw [q, upd_same] at ha; cases ha
    · rw [upd_ne q] at ha; exact ⟨q, ha⟩
  refine ⟨⟨⟨e.fr.ext, f.f0.trans e.fr.f0, fun a u hu m => ?_, fun a ha => (nes a (e.fr.there a ha)).2, fun a ha z => ?_, f.mM⟩, e.len, e.ok, e.sep, fun j a hj => ?_, fun j a c h1 h2 => (nes a (e.fresh j a c h1 h2)).2⟩, ?_, ?_, ?_⟩
  · refine e.fr.h0 a u ?_ m
    show upd C.H0 p o a = some u
    rw [upd_ne (fun q => by rw [q, h0] at hu; cases hu)]; exact hu
  · refine e.fr.new a ?_ (f.new a ha z)
    show upd C.H0 p o a ≠ none
    rw [upd_ne (fun q => ha (by rw [q]; exact h0))]; exact ha
  · obtain ⟨x, y, z⟩ := e.own j a hj
    refine ⟨x, y, ?_⟩
    rcases z with z | z
    · exact .inl (nes a z).2
    · exact .inr z
  · exact e.fr.new p (ne_none here) f1
  · exact e.fr.h0 p o here nm
  · intro j hj
    rcases (e.own j p hj).2.2 with z | z
    · rw [here] at z; cases z
    · exact nm z
/-- it is changed -/
theorem SE.wrx {K : PySem.W.Frag} {C : Cn} {F H : Hp} {σ : L2.St} {p : Addr} {o o' : HO} (e : SE K C F H σ ρ) (h0 : C.H0 p = none) (fp : F p = none) (hp : H p = some o') (no : ∀ j, ¬ Owns σ ρ j p) : SE K C F (upd H p o) σ ρ := by
  refine ⟨⟨fun a u h => ?_, e.fr.f0, fun a u hu m => ?_, fun a ha => ?_, e.fr.new, e.fr.mM⟩, e.len, fun i s hs => ?_, e.sep, fun j a hj => ?_, e.fresh⟩
  · rw [upd_ne (fun q => by rw [q, fp] at h; cases h)]; exact e.fr.ext a u h
  · rw [upd_ne (fun q => by rw [q, h0] at hu; cases hu)]; exact e.fr.h0 a u hu m
  · by_cases q : a = p
    · rw [q, upd_same] at ha; cases ha
    · rw [upd_ne q] at ha; exact e.fr.there a ha
  · refine (e.ok i s hs).grow (.refl _) fun l u hl ho hu => ?_
    rw [upd_ne (fun q => no i (by rw [← q]; exact ⟨join_some hl, s, hs, ho⟩))]; exact hu
  · obtain ⟨x, y, z⟩ := e.own j a hj
    refine ⟨x, ?_, z⟩
    rw [upd_ne (fun q => no j (by rw [← q]; exact hj))]; exact y

/-! ### comprehensions, turn by turn -/
/-- X, in the block of a comprehension -/
def IsBlk (X : Cx) (scope : Scope) (Y : Cx) : Prop := ∃ (s : Shared) (H : Hp) (C : Addr) (cl : List (Str × Addr)) (fp : List Addr), Y = X.blk s H scope (compEnvC scope cl C X.env) fp
abbrev TsD (X : Cx) (es : List Expr) (ρ : En) (k : Bool) (ρ' : En) : Prop := PTs X es (tT X.K ρ k ρ')
theorem tsd_nil : TsD X [] ρ true ρ := ⟨fun pins s σ H Q I ⟨C, F, se, q⟩ => (pts_nil (X := X)).run pins s σ H Q I (q F H (.refl _) se)⟩
theorem tsd_one (h : TD X c ρ k ρ') : TsD X [c] ρ k ρ' := pts_one h
structure Turn where
  ρt : En
  ρm : En
  k : Bool
  y : PyData
  ρe : En
structure TurnOk (X : Cx) (scope : Scope) (vs : List Nat) (tg elt : Expr) (ifs : List Expr) (d : PyData) (ρ ρ' : En) (T : Turn) : Prop where
  tg : ∀ Y, IsBlk X scope Y → GV Y vs tg d (wipeE ρ vs) T.ρt
  ts : ∀ Y, IsBlk X scope Y → PTs Y ifs (tT X.K T.ρt T.k T.ρm)
  el : ∀ Y, IsBlk X scope Y → T.k = true → PE Y elt (tP X.K T.ρm T.y T.ρe)
  nx : Le (wipeE ρ' vs) (if T.k = true then T.ρe else T.ρm)
/-- what the turns leave -/
def outs (T : Nat → Turn) : Nat → List PyData
  | 0 => []
  | n + 1 => if (T n).k = true then outs T n ++ [(T n).y] else outs T n
theorem outs_len (T : Nat → Turn) : ∀ n, (outs T n).length ≤ n
  | 0 => Nat.le_refl _
  | n + 1 => by
    unfold outs
    have := outs_len T n
    split
    · rw [List.length_append, List.length_singleton]; omega
    · omega
theorem SE.wiped {K : PySem.W.Frag} {C : Cn} {F H : Hp} {σ : L2.St} {vs : List Nat} (e : SE K C F H σ (wipeE ρ vs)) : SE K C F H (L2.wipe σ vs) (wipeE ρ vs) :=
  e.sub (wipe_length σ vs) fun i s hs hn => by
    by_cases q : i ∈ vs
    · exact absurd (wipeE_in q hs) hn
    · exact wipe_out q
section
variable {scope : Scope} {own : List (Str × Nat)} {ifs : List Expr} {src : Option Nat} {T : Nat → Turn} {I : Nat → En}
/-- what is read of a list comprehension: any reader of targets, tests and elements that the turns give -/
theorem lc_read {Q : VK} {σ : L2.St} {H : Hp} {Kk : PySem.W.Frag} {C : Cn} {F : Hp} {J : It} {vs : List Nat} {g : TG} {tt : TT} {te : TE} (se : SE Kk C F H σ ρ1) (wk : Wk Kk F σ J its ok src) (h0 : Le (wipeE (I 0) vs) ρ1) (hsrc : ∀ j, src = some j → j ∉ vs) (hok : ∀ i, i ≤ its.length → ok (wipeE (I i) vs)) (hlen : its.length < 100000)
    (hg : ∀ i d, its[i]? = some d → ∀ v σ H Q, tGv Kk vs d (wipeE (I i) vs) (T i).ρt v σ H Q → g v σ H Q) (ht : ∀ i d, its[i]? = some d → ∀ σ H Q, tT Kk (T i).ρt (T i).k (T i).ρm σ H Q → tt σ H Q) (he : ∀ i d, its[i]? = some d → (T i).k = true → ∀ σ H Q, tP Kk (T i).ρm (T i).y (T i).ρe σ H Q → te σ H Q)
    (hnx : ∀ (i : Nat) (d : PyData), its[i]? = some d → Le (wipeE (I (i + 1)) vs) (if (T i).k = true then (T i).ρe else (T i).ρm))
    (hq : ∀ p F' H', Ex F F' → SE Kk C F' H' σ (restE ρ1 (I its.length) vs) → F' p = none → C.H0 p = none → (∀ j, ¬ Owns σ (restE ρ1 (I its.length) vs) j p) → Own1 Kk F' H' p (.l (outs T its.length)) → Q (.ref p) H') :
    ∀ Dl, H Dl = none → ∃ W : Nat → Nat → Hp → Prop, (∃ m, W 0 m (upd H Dl (.lst []))) ∧ ∀ i m H, W i m H →
      (J.stop i H ∧ Q (.ref Dl) H) ∨ (J.go i H ∧ ∃ Nx : Hp → Prop, (∀ H', Nx H' → ∃ m', m' < m ∧ W (i + 1) m' H') ∧ ∀ v H', J.yld i H v H' →
        g v (L2.wipe σ vs) H' fun σ2 H2 => L2.wipe σ2 vs = L2.wipe σ vs ∧ tt σ2 H2 fun b H3 =>
            if b = true then te σ2 H3 fun y H4 => ∃ acc, H4 Dl = some (.lst acc) ∧ acc.length < sizeLine ∧ Nx (upd H4 Dl (.lst (acc ++ [y]))) else Nx H3) := by
  intro Dl hD
  have w0 := (se.le h0).wiped
  let St (i : Nat) (H' : Hp) : Prop := ∃ F' acc, Ex F F' ∧ SE Kk C F' H' (L2.wipe σ vs) (wipeE (I i) vs) ∧ F' Dl = none ∧ H' Dl = some (.lst acc) ∧ (∀ j, ¬ Owns (L2.wipe σ vs) (wipeE (I i) vs) j Dl) ∧ RpA Kk F' acc (outs T i)
  have c0 : C.H0 Dl = none := se.fr.there Dl hD
  have fD : F Dl = none := se.fr.ext.none hD
  refine ⟨fun i m H => m = its.length - i ∧ i ≤ its.length ∧ St i H, ⟨its.length, by simp, Nat.zero_le _, F, [], .refl _, w0.grow (.side w0.fr.ext hD), fD, upd_same, not_owns_new w0 hD, .nil⟩, ?_⟩
  rintro i m H1 ⟨rfl, hle, F1, acc, x1, e1, f1, h1, n1, r1⟩
  have same : ∀ j, src = some j → (L2.wipe σ vs)[j]? = σ[j]? := fun j q => wipe_out (hsrc j q)
  by_cases hlt : i < its.length
  · refine .inr ⟨wk.go i _ F1 H1 _ _ x1 e1 (hok i hle) same hlt, St (i + 1), fun H' q => ⟨its.length - (i + 1), by omega, rfl, hlt, q⟩, fun v H2 y => ?_⟩
    have e1' := e1.pin c0 h1 n1
    obtain ⟨d, F2, hd, x2, e2, r2⟩ := wk.yld i _ F1 H1 _ _ v H2 x1 e1' (hok i hle) same hlt y
    refine hg i d hd _ _ _ _ ⟨_, F2, e2, r2, fun σ3 F3 H3 w3' x3 e3 => ?_⟩
    have w3 := w3'.trans wipe_wipe
    refine ⟨w3, ?_⟩
    refine ht i d hd _ _ _ ⟨_, F3, e3, fun F4 H4 x4 e4 => ?_⟩
    have nx := hnx i d hd
    have olen := outs_len T i
    cases k : (T i).k with
    | true =>
      rw [k, if_pos rfl] at nx
      refine iteT (he i d hd k _ _ _ ⟨_, F4, e4, fun y F5 H5 x5 e5 r5 => ?_⟩)
      obtain ⟨e6, f6, h6, n6⟩ := SE.unpin e1.fr c0 f1 (e5.le nx).wiped
      rw [w3] at e6 n6
      refine ⟨acc, h6, by rw [r1.length]; exact line_lt (by omega), F5, acc ++ [y], x1.trans (x2.trans (x3.trans (x4.trans x5))), e6.wrx c0 f6 h6 n6, f6, upd_same, n6, ?_⟩
      unfold outs
      rw [k, if_pos rfl]
      exact (r1.mono (x2.trans (x3.trans (x4.trans x5)))).append (.cons r5 .nil)
    | false =>
      rw [k, if_neg Bool.false_ne_true] at nx
      refine iteF ?_
      obtain ⟨e6, f6, h6, n6⟩ := SE.unpin e1.fr c0 f1 (e4.le nx).wiped
      rw [w3] at e6 n6
      refine ⟨F4, acc, x1.trans (x2.trans (x3.trans x4)), e6, f6, h6, n6, ?_⟩
      unfold outs
      rw [k, if_neg Bool.false_ne_true]
      exact r1.mono (x2.trans (x3.trans x4))
  · have q : i = its.length := by omega
    subst q
    obtain ⟨b1, b2⟩ := SE.back se x1 e1
    exact .inl ⟨wk.stop _ F1 H1 _ _ x1 e1 (hok _ hle) same, hq Dl F1 H1 x1 b1 f1 c0 (fun j hj => n1 j (b2 j Dl hj)) ⟨acc, h1, r1⟩⟩
/-- what a list comprehension needs, whatever is done with it -/
structure LcOk (X : Cx) (elt tg iter : Expr) (ifs : List Expr) (scope : Scope) (ρ : En) (ct : Ct) (ρ' : En) : Prop where
  ex : ∃ (own : List (Str × Nat)) (wi : TI) (g : TG) (tt : TT) (te : TE), PI X tg iter wi ∧ BlkOk X.N X.env.scope scope own ∧ (∀ (s : Shared) (H : Hp) (C : Addr) (cl : List (Str × Addr)) (fp : List Addr), PG (X.blk s H scope (compEnvC scope cl C X.env) fp) tg g) ∧
    (∀ (s : Shared) (H : Hp) (C : Addr) (cl : List (Str × Addr)) (fp : List Addr), PTs (X.blk s H scope (compEnvC scope cl C X.env) fp) ifs tt) ∧ (∀ (s : Shared) (H : Hp) (C : Addr) (cl : List (Str × Addr)) (fp : List Addr), PE (X.blk s H scope (compEnvC scope cl C X.env) fp) elt te) ∧
    ∀ σ H Q, tN X.K ρ ct ρ' σ H Q → tLc wi g tt te (own.map (·.2)) σ H Q
/-- a list comprehension -/
theorem lc_ok (I : Nat → En) (T : Nat → Turn) (hb : BlkOk X.N X.env.scope scope own) (hi : ID X tg iter ρ its ok src ρ1) (h0 : Le (wipeE (I 0) (own.map (·.2))) ρ1) (hsrc : ∀ j, src = some j → j ∉ own.map (·.2)) (hok : ∀ i, i ≤ its.length → ok (wipeE (I i) (own.map (·.2)))) (hlen : its.length < 100000)
    (hT : ∀ i d, its[i]? = some d → TurnOk X scope (own.map (·.2)) tg elt ifs d (I i) (I (i + 1)) (T i)) :
    LcOk X elt tg iter ifs scope ρ (.l (outs T its.length)) (restE ρ1 (I its.length) (own.map (·.2))) := by
  have hg := fun (s : Shared) (H : Hp) (C : Addr) (cl : List (Str × Addr)) (fp : List Addr) => PG_ex (t := fun (p : { p : Nat × PyData // its[p.1]? = some p.2 }) => tGv X.K (own.map (·.2)) p.1.2 (wipeE (I p.1.1) (own.map (·.2))) (T p.1.1).ρt) fun p => (hT p.1.1 p.1.2 p.2).tg _ ⟨s, H, C, cl, fp, rfl⟩
  have ht := fun (s : Shared) (H : Hp) (C : Addr) (cl : List (Str × Addr)) (fp : List Addr) => PTs_ex fun p : { p : Nat × PyData // its[p.1]? = some p.2 } => (hT p.1.1 p.1.2 p.2).ts _ ⟨s, H, C, cl, fp, rfl⟩
  have he := fun (s : Shared) (H : Hp) (C : Addr) (cl : List (Str × Addr)) (fp : List Addr) => PE_ex fun p : { p : Nat × PyData // its[p.1]? = some p.2 ∧ (T p.1).k = true } => (hT p.1.1 p.1.2 p.2.1).el _ ⟨s, H, C, cl, fp, rfl⟩ p.2.2
  refine ⟨own, _, _, _, _, hi, hb, hg, ht, he, fun σ H Q ⟨C, F, se, q⟩ => ⟨C, F, se, fun J F1 H1 x1 e1 wk => ?_⟩⟩
  exact lc_read (g := fun v σ H Q => ∃ p : { p : Nat × PyData // its[p.1]? = some p.2 }, tGv X.K (own.map (·.2)) p.1.2 (wipeE (I p.1.1) (own.map (·.2))) (T p.1.1).ρt v σ H Q)
    (tt := fun σ H Q => ∃ p : { p : Nat × PyData // its[p.1]? = some p.2 }, tT X.K (T p.1.1).ρt (T p.1.1).k (T p.1.1).ρm σ H Q)
    (te := fun σ H Q => ∃ p : { p : Nat × PyData // its[p.1]? = some p.2 ∧ (T p.1).k = true }, tP X.K (T p.1.1).ρm (T p.1.1).y (T p.1.1).ρe σ H Q) e1 wk h0 hsrc hok hlen (fun i d hd v σ H Q t => ⟨⟨(i, d), hd⟩, t⟩) (fun i d hd σ H Q t => ⟨⟨(i, d), hd⟩, t⟩) (fun i d hd k σ H Q t => ⟨⟨(i, d), hd, k⟩, t⟩) (fun i d hd => (hT i d hd).nx) fun p F2 H2 x2 e2 f2 c2 n2 o2 => q p F2 H2 (x1.trans x2) e2 f2 c2 n2 o2
theorem pn_lc {ct : Ct} (h : LcOk X elt tg iter ifs scope ρ ct ρ') (hN : X.N.Nodup) (hc : X.calm = true := by rfl) (hs : ∀ x, foldedSetIterable iter X.env x = pure x := by intro _; rfl) : PN X (.ListComp elt [⟨tg, iter, ifs, 0⟩] scope pos) ρ ct ρ' := by
  obtain ⟨own, wi, g, tt, te, hi, hb, hg, ht, he, q⟩ := h.ex
  exact PE_imp (pe_lc hc hN hi hb hg ht he hs) q
/-- name = [..] on one line, the name a local: it goes on as its own list -/
theorem sd_setLcN {ct : Ct} {spos : Pos} (i : Nat) (h : LcOk X elt tg iter ifs scope ρ ct ρ') (h2 : D.nx (ρ'.set i (.o none ct))) (hN : X.N.Nodup) (hc : X.calm = true := by rfl) (hy : X.N[i]? = some w := by rfl) (hyl : X.env.scope.names.lookup w = some .local := by rfl)
    (hsw : swapsWith (.ListComp elt [⟨tg, iter, ifs, 0⟩] scope pos) (some (.Name w pos')) spos.line X.env = pure true := by rfl) (hs : ∀ x, foldedSetIterable iter X.env x = pure x := by intro _; rfl) : SD X W (.Assign [.Name w pos'] (.ListComp elt [⟨tg, iter, ifs, 0⟩] scope pos) spos) ρ D := by
  obtain ⟨own, wi, g, tt, te, hi, hb, hg, ht, he, q⟩ := h.ex
  exact PS_imp (ps_setLc hc hN hy hyl hsw hi hb hg ht he hs) fun E σ H ⟨C, F, se, cv⟩ => q σ H _ ⟨C, F, se, fun p F1 H1 x1 e1 fp h0 no r1 => cv.nx _ F1 H1 _ h2 (e1.setOwn fp h0 no r1)⟩
/-- .. as data -/
theorem sd_setLcD {spos : Pos} (i : Nat) (h : LcOk X elt tg iter ifs scope ρ (.l xs) ρ') (h2 : D.nx (ρ'.set i (.d (.list xs)))) (hN : X.N.Nodup) (hc : X.calm = true := by rfl) (hy : X.N[i]? = some w := by rfl) (hyl : X.env.scope.names.lookup w = some .local := by rfl)
    (hsw : swapsWith (.ListComp elt [⟨tg, iter, ifs, 0⟩] scope pos) (some (.Name w pos')) spos.line X.env = pure true := by rfl) (hs : ∀ x, foldedSetIterable iter X.env x = pure x := by intro _; rfl) : SD X W (.Assign [.Name w pos'] (.ListComp elt [⟨tg, iter, ifs, 0⟩] scope pos) spos) ρ D := by
  obtain ⟨own, wi, g, tt, te, hi, hb, hg, ht, he, q⟩ := h.ex
  refine PS_imp (ps_setLc hc hN hy hyl hsw hi hb hg ht he hs) fun E σ H ⟨C, F, se, cv⟩ => q σ H _ ⟨C, F, se, fun p F1 H1 x1 e1 fp h0 no r1 => ?_⟩
  obtain ⟨vs, hp, r⟩ := r1
  exact cv.nx _ (upd F1 p (.lst vs)) H1 _ h2 ((e1.frz fp hp h0 no).setD (.lst (SqL.of upd_same) (r.mono (.new fp))))
end
end
end G

/-! GCall: what defs promise, in words of data; calls. -/
namespace G
open PySem PySem.Spec PyProof.Rows L2

/-- how a call ends: it gives data, a new object, or raises -/
inductive Res where
  | ret (y : PyData)
  | own (c : Ct)
  | exc (cls : Value) (fs : List (Str × PyData))
def RetD (K : PySem.W.Frag) (F H : Hp) (Q : VK) (E : XK) : Res → Prop
  | .ret y => ∀ v F' H', Gr F H F' H' → Rp K F' v y → Q v H'
  | .own c => ∀ p F' H', Gr F H F' H' → H p = none → F' p = none → Own1 K F' H' p c → Q (.ref p) H'
  | .exc cls fs => ∀ d F' H', Gr F H F' H' → ExRep K F' H' d fs → E cls d H'
/-- growth, but for the object at l -/
structure GrW (l : Addr) (F H F' H' : Hp) : Prop where
  f : Ex F F'
  h : ∀ a o, a ≠ l → H a = some o → H' a = some o
  fh : Ex F' H'
  new : ∀ a, H a ≠ none → F a = none → F' a = none
theorem SE.wrg {K : PySem.W.Frag} {C : Cn} {F H F' H' : Hp} {σ : L2.St} {ρ : En} (e : SE K C F H σ ρ) {i : Nat} {l : Addr} {p : Option Addr} {c c' : Ct} (g : GrW l F H F' H') (hi : ρ[i]? = some (.o p c)) (hl : σ[i]? = some (some (.ref l))) (h : Own1 K F' H' l c') : SE K C F' H' σ (ρ.set i (.o p c')) := by
  have ow : Owns σ ρ i l := ⟨hl, _, hi, rfl⟩
  obtain ⟨w1, w2, w3⟩ := e.own i l ow
  have hp : p = none ∨ p = some l := by
    obtain ⟨l', a, b, _⟩ := e.getO hi
    rw [hl] at a
    cases a
    exact b
  have conv : ∀ j a, Owns σ (ρ.set i (.o p c')) j a → Owns σ ρ j a := fun j a hj => by
    obtain ⟨h1, t, h2, h3⟩ := hj
    by_cases q : j = i
    · subst q
      rw [hl] at h1
      cases h1
      exact ow
    · rw [List.getElem?_set_ne (Ne.symm q)] at h2
      exact ⟨h1, t, h2, h3⟩
  have back : ∀ a, H' a = none → H a = none := fun a ha => by
    by_cases q : a = l
    · subst q; exact absurd ha h.some
    · cases z : H a with
      | none => rfl
      | some o => rw [g.h a o q z] at ha; cases ha
  refine ⟨⟨g.fh, e.fr.f0.trans g.f, fun a u hu m => ?_, fun a ha => e.fr.there a (back a ha), fun a ha z => g.new a (fun q => ha (e.fr.there a q)) (e.fr.new a ha z), e.fr.mM⟩, by rw [List.length_set]; exact e.len, fun j t ht => ?_, fun j k a hj hk => e.sep j k a (conv j a hj) (conv k a hk), fun j a hj => ?_, fun j a d h1 h2 => ?_⟩
  · refine g.h a u (fun q => ?_) (e.fr.h0 a u hu m)
    subst q
    rcases w3 with z | z
    · rw [z] at hu; cases hu
    · exact m z
  · by_cases q : j = i
    · subst q
      obtain ⟨rfl, _⟩ := set_at ht
      rw [hl]
      exact ⟨l, rfl, hp, h⟩
    · rw [List.getElem?_set_ne (Ne.symm q)] at ht
      exact (e.ok j t ht).grow g.f fun b u hb ot hu => g.h b u (fun nb => q (by subst nb; exact e.sep j i b (slot_own ht ot (join_some hb)) ow)) hu
  · obtain ⟨x1, x2, x3⟩ := e.own j a (conv j a hj)
    exact ⟨g.new a x2 x1, fun z => x2 (back a z), x3⟩
  · by_cases q : j = i
    · subst q
      obtain ⟨q1, _⟩ := set_at h1
      cases q1
      exact e.fresh j a c hi h2
    · rw [List.getElem?_set_ne (Ne.symm q)] at h1
      exact e.fresh j a d h1 h2
/-- a promise over data -/
def spD (K : PySem.W.Frag) (S : List PyData → Res → Prop) : Sp := fun vs H Q E => ∃ F ds r, Ex F H ∧ RpA K F vs ds ∧ S ds r ∧ RetD K F H Q E r
/-- .. where the first argument is a list that is changed -/
def spO (K : PySem.W.Frag) (S : List PyData → List PyData → PyData → List PyData → Prop) : Sp := fun vs H Q E => ∃ F l vs' us xs ds y xs', vs = .ref l :: vs' ∧ Ex F H ∧ F l = none ∧ H l = some (.lst us) ∧ RpA K F us xs ∧ RpA K F vs' ds ∧ S xs ds y xs' ∧
  ∀ v F' H' us', GrW l F H F' H' → H' l = some (.lst us') → RpA K F' us' xs' → Rp K F' v y → Q v H'
/-- what a body has at its start -/
def pad (n : Nat) (l : En) : En := l ++ List.replicate (n - l.length) .un
def Dof : Res → DE
  | .ret y => { rt := fun x _ => x = y, nx := fun _ => y = .none }
  | .own c => { rn := fun c' _ => c' = c }
  | .exc cls fs => { ex := fun c' fs' _ => c' = cls ∧ fs' = fs }
section
variable {K : PySem.W.Frag} {F H : Hp}
theorem start_get {N : List Str} {vs : List V} {i : Nat} : (L2.start N vs)[i]?.join = vs[i]? := by
  unfold L2.start
  by_cases h : i < vs.length
  · rw [List.getElem?_append_left (by rw [List.length_map]; exact h), List.getElem?_map, List.getElem?_eq_getElem h]; rfl
  · rw [List.getElem?_append_right (by rw [List.length_map]; omega), List.getElem?_eq_none (Nat.le_of_not_lt h), List.getElem?_replicate]
    split <;> rfl
theorem pad_get {n i : Nat} {l : En} {s : Sl} (h : (pad n l)[i]? = some s) : l[i]? = some s ∨ s = .un := by
  unfold pad at h
  by_cases q : i < l.length
  · rw [List.getElem?_append_left q] at h; exact .inl h
  · rw [List.getElem?_append_right (by omega), List.getElem?_replicate] at h
    split at h
    · cases h; exact .inr rfl
    · cases h
theorem pad_len {n : Nat} {l : En} (h : l.length ≤ n) : (pad n l).length = n := by
  unfold pad; rw [List.length_append, List.length_replicate]; omega
theorem start_len {N : List Str} {vs : List V} (h : vs.length ≤ N.length) : (L2.start N vs).length = N.length := by
  unfold L2.start; rw [List.length_append, List.length_map, List.length_replicate]; omega
theorem SE.start {N : List Str} {vs : List V} {ds : List PyData} (e : Ex F H) (r : RpA K F vs ds) (hl : vs.length ≤ N.length) : SE K ⟨F, H, []⟩ F H (L2.start N vs) (pad N.length (ds.map .d)) := by
  have no : ∀ i a, ¬ Owns (L2.start N vs) (pad N.length (ds.map .d)) i a := fun i a ⟨_, s, h2, h3⟩ => by
    rcases pad_get h2 with z | z
    · rw [List.getElem?_map] at z
      cases q : ds[i]? with
      | none => rw [q] at z; cases z
      | some d => rw [q] at z; cases z; cases h3
    · subst z; cases h3
  refine ⟨⟨e, .refl _, fun _ _ h _ => h, fun _ h => h, fun _ _ z => z, fun a ha => by cases ha⟩, ?_, fun i s h => ?_, fun i j a hi => absurd hi (no i a), fun i a hi => absurd hi (no i a), fun i a c h1 h2 => absurd ⟨h2, _, h1, rfl⟩ (no i a)⟩
  · rw [start_len hl, pad_len (by rw [List.length_map, ← r.length]; exact hl)]
  · rw [start_get]
    rcases pad_get h with z | z
    · rw [List.getElem?_map] at z
      cases q : ds[i]? with
      | none => rw [q] at z; cases z
      | some d =>
        rw [q] at z; cases z
        obtain ⟨v, h1, h2⟩ := r.get q
        exact ⟨v, h1, h2⟩
    · subst z; trivial
theorem SE.startO {N : List Str} {l : Addr} {us vs : List V} {xs ds : List PyData} (e : Ex F H) (fl : F l = none) (hl0 : H l = some (.lst us)) (ru : RpA K F us xs) (r : RpA K F vs ds) (hl : vs.length + 1 ≤ N.length) :
    SE K ⟨F, H, [l]⟩ F H (L2.start N (.ref l :: vs)) (pad N.length (.o (some l) (.l xs) :: ds.map .d)) := by
  have ow : ∀ i a, Owns (L2.start N (.ref l :: vs)) (pad N.length (.o (some l) (.l xs) :: ds.map .d)) i a → i = 0 ∧ a = l := fun i a ⟨h1, s, h2, h3⟩ => by
    rcases pad_get h2 with z | z
    · cases i with
      | zero =>
        have := start_get (N := N) (vs := .ref l :: vs) (i := 0)
        rw [h1] at this
        cases this
        exact ⟨rfl, rfl⟩
      | succ i =>
        rw [List.getElem?_cons_succ, List.getElem?_map] at z
        cases q : ds[i]? with
        | none => rw [q] at z; cases z
        | some d => rw [q] at z; cases z; cases h3
    · subst z; cases h3
  refine ⟨⟨e, .refl _, fun _ _ h _ => h, fun _ h => h, fun _ _ z => z, fun a ha => ?_⟩, ?_, fun i s h => ?_, fun i j a hi hj => by rw [(ow i a hi).1, (ow j a hj).1], fun i a hi => ?_, fun i a c h1 h2 => ?_⟩
  · cases List.mem_singleton.mp ha
    show H l ≠ none
    rw [hl0]; exact fun z => nomatch z
  · rw [start_len (by simpa using hl), pad_len (by rw [List.length_cons, List.length_map, ← r.length]; exact hl)]
  · rw [start_get]
    rcases pad_get h with z | z
    · cases i with
      | zero => cases z; exact ⟨l, rfl, .inr rfl, us, hl0, ru⟩
      | succ i =>
        rw [List.getElem?_cons_succ, List.getElem?_map] at z
        rw [List.getElem?_cons_succ]
        cases q : ds[i]? with
        | none => rw [q] at z; cases z
        | some d =>
          rw [q] at z; cases z
          obtain ⟨v, h1, h2⟩ := r.get q
          exact ⟨v, h1, h2⟩
    · subst z; trivial
  · obtain ⟨rfl, rfl⟩ := ow i a hi
    refine ⟨fl, ?_, .inr (List.mem_singleton.mpr rfl)⟩
    rw [hl0]; exact fun z => nomatch z
  · obtain ⟨rfl, rfl⟩ := ow i a ⟨h2, _, h1, rfl⟩
    rcases pad_get h1 with z | z
    · cases z
    · cases z
theorem Gr.ofFr {F' H' : Hp} (f : Fr ⟨F, H, []⟩ F' H') : Gr F H F' H' := ⟨f.f0, fun a o h => f.h0 a o h (by simp), f.ext, f.new⟩
theorem GrW.ofFr {l : Addr} {F' H' : Hp} (f : Fr ⟨F, H, [l]⟩ F' H') : GrW l F H F' H' := ⟨f.f0, fun a o q h => f.h0 a o h (by simpa using q), f.ext, f.new⟩
end
section
variable {P : Program} {w : World} {K : PySem.W.Frag} {mg : Str → Option Value} {base : Heap} {x qual : Str} {st : Stmt} {f : Addr} {fd : FuncData} {N ps : List Str} {k : Nat}
abbrev WB (E : XK) : WX := fun cls d _ H => E cls d H
theorem body_run {X : Cx} {E : XK} {Q : VK} {sts : List Stmt} {F H : Hp} {vs : List V} {r : Res} {ds : List PyData} (hK : X.K = K) (ex : Ex F H) (rv : RpA K F vs ds) (hl : vs.length ≤ N.length) (rd : RetD K F H Q E r) :
    tD K (WB E) (pad N.length (ds.map .d)) (Dof r) { nx := fun _ H' => Q .non H', rt := Q } (L2.start N vs) H := by
  refine ⟨⟨F, H, []⟩, F, .start ex rv hl, ?_⟩
  cases r with
  | ret y =>
    exact ⟨fun ρ' F' H' σ' q s => rd _ F' H' (.ofFr s.fr) (by rw [show y = .none from q]; exact .non), fun x ρ' v F' H' σ' q s rp => rd v F' H' (.ofFr s.fr) (by rw [← show x = y from q]; exact rp), fun _ _ _ _ _ _ _ z => z.elim, fun _ _ _ _ z => z.elim, fun _ _ _ _ z => z.elim, fun _ _ _ _ _ _ z => z.elim⟩
  | own c =>
    exact ⟨fun _ _ _ _ z => z.elim, fun _ _ _ _ _ _ z => z.elim, fun _ _ _ _ _ _ _ z => z.elim, fun _ _ _ _ z => z.elim, fun _ _ _ _ z => z.elim, fun c' ρ' p F' H' σ' q s fp hp o => by
      cases (show c' = c from q)
      exact rd p F' H' (.ofFr s.fr) hp fp o⟩
  | exc cls fs =>
    exact ⟨fun _ _ _ _ z => z.elim, fun _ _ _ _ _ _ z => z.elim, fun c' fs' ρ' d F' H' σ' q s rp => by
      obtain ⟨rfl, rfl⟩ := (show c' = cls ∧ fs' = fs from q)
      exact rd d F' H' (.ofFr s.fr) rp, fun _ _ _ _ z => z.elim, fun _ _ _ _ z => z.elim, fun _ _ _ _ _ _ z => z.elim⟩
/-- THE RULE for a def over data -/
theorem fn_D {S : List PyData → Res → Prop} (Fn : Fun K x qual st f fd) (Sc : FnScope N ps (defScope st)) (hlen : ∀ ds r, S ds r → ds.length = ps.length) (hN : ps.length ≤ N.length)
    (hb : ∀ (cdv : Value) (A : Around) (outer : List Env) (s : Shared) (H : Hp) (E : XK), Room k (A.deeper (envOfC qual (defScope st) s.heap.objs.size f cdv)) → ∀ ds r, S ds r →
      BD (cxOf (L2.CX P w) P w K mg base N qual (defScope st) f cdv A outer s H E) (WB E) (defBody st) (pad N.length (ds.map .d)) (Dof r)) : FnOk P w K mg base (L2.CX P w) (k + 1) f fd ps (spD K S) := by
  refine Fn.okX Sc (fun vs H Q E ⟨F, ds, r, _, rv, s, _⟩ => by rw [rv.length]; exact hlen ds r s) fun cdv A outer s H vs Q E hr ⟨F, ds, r, ex, rv, sr, rd⟩ => ?_
  exact ⟨_, hb cdv A outer s H E hr ds r sr, body_run (X := cxOf (L2.CX P w) P w K mg base N qual (defScope st) f cdv A outer s H E) (sts := []) rfl ex rv (by rw [rv.length, hlen ds r sr]; exact hN) rd⟩
/-- .. with defaults -/
theorem fn_DD {S : List PyData → Res → Prop} {params : Arguments} {body : List Stmt} {scope : Scope} {dvs : List V} {kws : List (Str × V)} (Fn : FunD K x qual params body scope dvs kws f fd) (Sc : FnScope N ps scope) (hlen : ∀ ds r, S ds r → ds.length = ps.length) (hN : ps.length ≤ N.length)
    (hb : ∀ (cdv : Value) (A : Around) (outer : List Env) (s : Shared) (H : Hp) (E : XK), Room k (A.deeper (envOfC qual scope s.heap.objs.size f cdv)) → ∀ ds r, S ds r →
      BD (cxOf (L2.CX P w) P w K mg base N qual scope f cdv A outer s H E) (WB E) body (pad N.length (ds.map .d)) (Dof r)) : FnOk P w K mg base (L2.CX P w) (k + 1) f fd ps (spD K S) := by
  refine Fn.ok Sc (fun vs H Q E ⟨F, ds, r, _, rv, s, _⟩ => by rw [rv.length]; exact hlen ds r s) fun cdv A outer s H vs Q E hr ⟨F, ds, r, ex, rv, sr, rd⟩ => ?_
  exact ⟨_, hb cdv A outer s H E hr ds r sr, body_run (X := cxOf (L2.CX P w) P w K mg base N qual scope f cdv A outer s H E) (sts := []) rfl ex rv (by rw [rv.length, hlen ds r sr]; exact hN) rd⟩
/-- .. where the first argument is changed -/
theorem fn_O {S : List PyData → List PyData → PyData → List PyData → Prop} (Fn : Fun K x qual st f fd) (Sc : FnScope N ps (defScope st)) (hlen : ∀ xs ds y xs', S xs ds y xs' → ds.length + 1 = ps.length) (hN : ps.length ≤ N.length)
    (hb : ∀ (cdv : Value) (A : Around) (outer : List Env) (s : Shared) (H : Hp) (E : XK), Room k (A.deeper (envOfC qual (defScope st) s.heap.objs.size f cdv)) → ∀ l xs ds y xs', S xs ds y xs' →
      BD (cxOf (L2.CX P w) P w K mg base N qual (defScope st) f cdv A outer s H E) (WB E) (defBody st) (pad N.length (.o (some l) (.l xs) :: ds.map .d)) { rt := fun x ρ => x = y ∧ ρ[0]? = some (.o (some l) (.l xs')), nx := fun ρ => y = .none ∧ ρ[0]? = some (.o (some l) (.l xs')) }) :
    FnOk P w K mg base (L2.CX P w) (k + 1) f fd ps (spO K S) := by
  refine Fn.okX Sc (fun vs H Q E ⟨F, l, vs', us, xs, ds, y, xs', ev, _, _, _, _, rv, s, _⟩ => by rw [ev, List.length_cons, rv.length]; exact hlen _ _ _ _ s) fun cdv A outer s H vs Q E hr ⟨F, l, vs', us, xs, ds, y, xs', ev, ex, fl, hl, ru, rv, sr, rd⟩ => ?_
  subst ev
  refine ⟨_, hb cdv A outer s H E hr l xs ds y xs' sr, ⟨F, H, [l]⟩, F, .startO ex fl hl ru rv (by rw [rv.length, hlen _ _ _ _ sr]; exact hN), ?_⟩
  have look : ∀ {C : Cn} {F' H' : Hp} {σ' : L2.St} {ρ' : En}, SE K C F' H' σ' ρ' → ρ'[0]? = some (.o (some l) (.l xs')) → ∃ us', H' l = some (.lst us') ∧ RpA K F' us' xs' := fun {C F' H' σ' ρ'} s h => by
    obtain ⟨l', _, b, ⟨us', c, d⟩, _⟩ := s.getO h
    rcases b with b | b
    · cases b
    · cases b
      exact ⟨us', c, d⟩
  refine ⟨fun ρ' F' H' σ' ⟨q1, q2⟩ s => ?_, fun x ρ' v F' H' σ' ⟨q1, q2⟩ s rp => ?_, fun _ _ _ _ _ _ _ z => z.elim, fun _ _ _ _ z => z.elim, fun _ _ _ _ z => z.elim, fun _ _ _ _ _ _ z => z.elim⟩
  · obtain ⟨us', c, d⟩ := look s q2
    exact rd _ F' H' us' (.ofFr s.fr) c d (by rw [q1]; exact .non)
  · obtain ⟨us', c, d⟩ := look s q2
    exact rd v F' H' us' (.ofFr s.fr) c d (by rw [← q1]; exact rp)
/-- .. where the first argument is changed -/
theorem fn_OD {params : Arguments} {body : List Stmt} {scope : Scope} {dvs : List V} {kws : List (Str × V)} {S : List PyData → List PyData → PyData → List PyData → Prop} (Fn : FunD K x qual params body scope dvs kws f fd) (Sc : FnScope N ps scope) (hlen : ∀ xs ds y xs', S xs ds y xs' → ds.length + 1 = ps.length) (hN : ps.length ≤ N.length)
    (hb : ∀ (cdv : Value) (A : Around) (outer : List Env) (s : Shared) (H : Hp) (E : XK), Room k (A.deeper (envOfC qual scope s.heap.objs.size f cdv)) → ∀ l xs ds y xs', S xs ds y xs' →
      BD (cxOf (L2.CX P w) P w K mg base N qual scope f cdv A outer s H E) (WB E) body (pad N.length (.o (some l) (.l xs) :: ds.map .d)) { rt := fun x ρ => x = y ∧ ρ[0]? = some (.o (some l) (.l xs')), nx := fun ρ => y = .none ∧ ρ[0]? = some (.o (some l) (.l xs')) }) :
    FnOk P w K mg base (L2.CX P w) (k + 1) f fd ps (spO K S) := by
  refine Fn.ok Sc (fun vs H Q E ⟨F, l, vs', us, xs, ds, y, xs', ev, _, _, _, _, rv, s, _⟩ => by rw [ev, List.length_cons, rv.length]; exact hlen _ _ _ _ s) fun cdv A outer s H vs Q E hr ⟨F, l, vs', us, xs, ds, y, xs', ev, ex, fl, hl, ru, rv, sr, rd⟩ => ?_
  subst ev
  refine ⟨_, hb cdv A outer s H E hr l xs ds y xs' sr, ⟨F, H, [l]⟩, F, .startO ex fl hl ru rv (by rw [rv.length, hlen _ _ _ _ sr]; exact hN), ?_⟩
  have look : ∀ {C : Cn} {F' H' : Hp} {σ' : L2.St} {ρ' : En}, SE K C F' H' σ' ρ' → ρ'[0]? = some (.o (some l) (.l xs')) → ∃ us', H' l = some (.lst us') ∧ RpA K F' us' xs' := fun {C F' H' σ' ρ'} s h => by
    obtain ⟨l', _, b, ⟨us', c, d⟩, _⟩ := s.getO h
    rcases b with b | b
    · cases b
    · cases b
      exact ⟨us', c, d⟩
  refine ⟨fun ρ' F' H' σ' ⟨q1, q2⟩ s => ?_, fun x ρ' v F' H' σ' ⟨q1, q2⟩ s rp => ?_, fun _ _ _ _ _ _ _ z => z.elim, fun _ _ _ _ z => z.elim, fun _ _ _ _ z => z.elim, fun _ _ _ _ _ _ z => z.elim⟩
  · obtain ⟨us', c, d⟩ := look s q2
    exact rd _ F' H' us' (.ofFr s.fr) c d (by rw [q1]; exact .non)
  · obtain ⟨us', c, d⟩ := look s q2
    exact rd v F' H' us' (.ofFr s.fr) c d (by rw [← q1]; exact rp)
/-- a def that may be called by its name, dvs: the defaults that fill up -/
structure Cal (P : Program) (w : World) (K : PySem.W.Frag) (mg : Str → Option Value) (base : Heap) (k : Nat) (x : Str) (sp : Sp) (dvs : List V) : Prop where
  ex : ∃ (f : Addr) (fd : FuncData) (ps : List Str) (ds : List Value), FnOk P w K mg base (L2.CX P w) k f fd ps sp ∧ mg x = some (.ref f) ∧ PySem.W.keepIn K (.ref f) = true ∧ Binds K fd ps ds ∧ Vals dvs ds
theorem Cal.mono {j k : Nat} {sp : Sp} {dvs : List V} (c : Cal P w K mg base j x sp dvs) (h : j ≤ k) : Cal P w K mg base k x sp dvs := by
  obtain ⟨f, fd, ps, ds, a, b⟩ := c.ex
  exact ⟨f, fd, ps, ds, a.mono h, b⟩
end
/-- defaults as data: ints, texts, None, booleans -/
inductive Dfs : List V → List PyData → Prop
  | nil : Dfs [] []
  | int {i : Int} {vs : List V} {ds : List PyData} : Dfs vs ds → Dfs (.int i :: vs) (.int i :: ds)
  | str {i : Str} {vs : List V} {ds : List PyData} : Dfs vs ds → Dfs (.str i :: vs) (.str i :: ds)
  | bl {i : Bool} {vs : List V} {ds : List PyData} : Dfs vs ds → Dfs (.bl i :: vs) (.bool i :: ds)
  | non {vs : List V} {ds : List PyData} : Dfs vs ds → Dfs (.non :: vs) (.none :: ds)
theorem Dfs.rp {K : PySem.W.Frag} {F : Hp} : ∀ {vs : List V} {ds : List PyData}, Dfs vs ds → RpA K F vs ds
  | _, _, .nil => .nil
  | _, _, .int h => .cons (.int _) h.rp
  | _, _, .str h => .cons (.str _) h.rp
  | _, _, .bl h => .cons (.bl _) h.rp
  | _, _, .non h => .cons .non h.rp
section
variable {X : Cx} {W : WX} {e a b c : Expr} {es : List Expr} {p pos pos' : Pos} {ρ ρ' ρ1 ρ2 ρ3 : En} {y z : PyData} {xs ys xs' ds : List PyData} {i j k : Nat} {x : Str} {dvs : List V} {dds : List PyData}
theorem passE0 {X : Cx} (σ : L2.St) : PassesAt (L2.CX X.prog X.w) X σ E0 := fun _ _ _ _ _ _ h => by
  obtain ⟨_, _, _, _, _, _, _, _, _, _, _, _, z⟩ := h
  exact z.elim
theorem pd_call {S : List PyData → Res → Prop} (cl : Cal X.prog X.w X.K X.mg X.base j x (spD X.K S) dvs) (hr : Room k X.A) (hd : Dfs dvs dds) (ha : AD X (e :: es) ρ ds ρ1) (hS : S (ds ++ dds) (.ret y)) (hk : j ≤ k := by decide) (hg : Gl X x := by rfl)
    (hdb : (x == ("__debug__" : Str)) = false := by decide) (he : starEach (e :: es) X.env = (false, eval e X.env) :: starEach es X.env := by rfl) (hpl : (backTo pos (starEach es X.env)).any (·.1) = false := by rfl) :
    PD X (.Call (.Name x p) (e :: es) [] pos) ρ y ρ1 := by
  obtain ⟨f, fd, ps, dd, fn, hm, kp, bi, vv⟩ := cl.ex
  refine PE_imp (pe_callSD fn (hr.mono hk) hg hm kp bi vv (fun σ => passE0 σ) ha hdb he hpl) fun σ H Q ⟨C, F, se, q⟩ => ⟨C, F, se, fun vs F1 H1 x1 e1 r1 => ?_⟩
  exact ⟨F1, _, _, e1.fr.ext, r1.append hd.rp, hS, fun v F2 H2 g r => q v F2 H2 (x1.trans g.f) (e1.grow g) r⟩
theorem pn_call {S : List PyData → Res → Prop} {ct : Ct} (cl : Cal X.prog X.w X.K X.mg X.base j x (spD X.K S) dvs) (hr : Room k X.A) (hd : Dfs dvs dds) (ha : AD X (e :: es) ρ ds ρ1) (hS : S (ds ++ dds) (.own ct)) (hk : j ≤ k := by decide) (hg : Gl X x := by rfl)
    (hdb : (x == ("__debug__" : Str)) = false := by decide) (he : starEach (e :: es) X.env = (false, eval e X.env) :: starEach es X.env := by rfl) (hpl : (backTo pos (starEach es X.env)).any (·.1) = false := by rfl) :
    PN X (.Call (.Name x p) (e :: es) [] pos) ρ ct ρ1 := by
  obtain ⟨f, fd, ps, dd, fn, hm, kp, bi, vv⟩ := cl.ex
  refine PE_imp (pe_callSD fn (hr.mono hk) hg hm kp bi vv (fun σ => passE0 σ) ha hdb he hpl) fun σ H Q ⟨C, F, se, q⟩ => ⟨C, F, se, fun vs F1 H1 x1 e1 r1 => ?_⟩
  exact ⟨F1, _, _, e1.fr.ext, r1.append hd.rp, hS, fun p F2 H2 g hp fp o => q p F2 H2 (x1.trans g.f) (e1.grow g) fp (e1.fr.there p hp) (not_owns_new e1 hp) o⟩
/-- an expression that raises -/
def tX (K : PySem.W.Frag) (W : WX) (ρ : En) (cls : Value) (fs : List (Str × PyData)) (ρ' : En) : TE := fun σ H _ => ∃ C F, SE K C F H σ ρ ∧ ∀ d F' H', Ex F F' → SE K C F' H' σ ρ' → ExRep K F' H' d fs → W cls d σ H'
abbrev PX (X : Cx) (W : WX) (e : Expr) (ρ : En) (cls : Value) (fs : List (Str × PyData)) (ρ' : En) : Prop := PE X e (tX X.K W ρ cls fs ρ')
theorem px_call {S : List PyData → Res → Prop} {cls : Value} {fs : List (Str × PyData)} (tk : Takes X W) (cl : Cal X.prog X.w X.K X.mg X.base j x (spD X.K S) dvs) (hr : Room k X.A) (hd : Dfs dvs dds) (ha : AD X (e :: es) ρ ds ρ1) (hS : S (ds ++ dds) (.exc cls fs)) (hk : j ≤ k := by decide) (hg : Gl X x := by rfl)
    (hdb : (x == ("__debug__" : Str)) = false := by decide) (he : starEach (e :: es) X.env = (false, eval e X.env) :: starEach es X.env := by rfl) (hpl : (backTo pos (starEach es X.env)).any (·.1) = false := by rfl) :
    PX X W (.Call (.Name x p) (e :: es) [] pos) ρ cls fs ρ1 := by
  obtain ⟨f, fd, ps, dd, fn, hm, kp, bi, vv⟩ := cl.ex
  refine PE_imp (pe_callSD fn (hr.mono hk) hg hm kp bi vv (fun σ => passAt tk σ) ha hdb he hpl) fun σ H Q ⟨C, F, se, q⟩ => ⟨C, F, se, fun vs F1 H1 x1 e1 r1 => ?_⟩
  exact ⟨F1, _, _, e1.fr.ext, r1.append hd.rp, hS, fun d F2 H2 g r => q d F2 H2 (x1.trans g.f) (e1.grow g) r⟩
/-- the first argument a name that owns its list, which is changed -/
theorem pd_callO {S : List PyData → List PyData → PyData → List PyData → Prop} {o : Str} {p0 : Pos} {pa pb : Option Addr} (i : Nat) (cl : Cal X.prog X.w X.K X.mg X.base j x (spO X.K S) dvs) (hr : Room k X.A) (hd : Dfs dvs dds) (h0 : ρ[i]? = some (.o pa (.l ys))) (ha : AD X es ρ ds ρ1) (h1 : ρ1[i]? = some (.o pb (.l xs))) (hS : S xs (ds ++ dds) y xs') (hk : j ≤ k := by decide) (hg : Gl X x := by rfl)
    (hN : X.N[i]? = some o := by rfl) (hv : Vis X.env.scope o := by first | exact Or.inl rfl | exact Or.inr (Or.inl rfl) | exact Or.inr (Or.inr rfl)) (hdo : (o == ("__debug__" : Str)) = false := by decide) (hcd : (o == ("__classdict__" : Str)) = false := by decide)
    (hdb : (x == ("__debug__" : Str)) = false := by decide) (he : starEach (.Name o p0 :: es) X.env = (false, eval (.Name o p0) X.env) :: starEach es X.env := by rfl) (hpl : (backTo pos (starEach es X.env)).any (·.1) = false := by rfl) :
    PD X (.Call (.Name x p) (.Name o p0 :: es) [] pos) ρ y (ρ1.set i (.o pb (.l xs'))) := by
  obtain ⟨f, fd, ps, dd, fn, hm, kp, bi, vv⟩ := cl.ex
  refine PE_imp (pe_callSD fn (hr.mono hk) hg hm kp bi vv (fun σ => passE0 σ) (pa_cons (pe_var hN hv hdo hcd) ha he) hdb he hpl) fun σ H Q ⟨C, F, se, q⟩ => ?_
  obtain ⟨l, a1, _, _, a4⟩ := se.getO h0
  refine ⟨.ref l, a1, C, F, se, fun vs F1 H1 x1 e1 r1 => ?_⟩
  obtain ⟨l', b1, b2, ⟨us, b3, b5⟩, b4⟩ := e1.getO h1
  rw [a1] at b1
  cases b1
  refine ⟨F1, l, vs ++ dvs, us, xs, ds ++ dds, y, xs', rfl, e1.fr.ext, (e1.own i l b4).1, b3, b5, r1.append hd.rp, hS, fun v F2 H2 us' g h2 ru rv => ?_⟩
  exact q v F2 H2 (x1.trans g.f) (e1.wrg g h1 a1 ⟨us', h2, ru⟩) rv
end
end G

/-! GBuiltin: built-in functions and operations in words of data. -/
namespace G
open PySem PySem.Spec PyProof.Rows L2

theorem rpa_one {K : PySem.W.Frag} {F : Hp} {vs : List V} {x : PyData} (r : RpA K F vs [x]) : ∃ v, vs = [v] ∧ Rp K F v x := by
  cases r with
  | cons a b => cases b; exact ⟨_, rfl, a⟩
theorem rpa_two {K : PySem.W.Frag} {F : Hp} {vs : List V} {x y : PyData} (r : RpA K F vs [x, y]) : ∃ v w, vs = [v, w] ∧ Rp K F v x ∧ Rp K F w y := by
  cases r with
  | cons a b =>
    obtain ⟨w, rfl, h⟩ := rpa_one b
    exact ⟨_, _, rfl, a, h⟩
/-- a built-in function's reading takes data to data -/
def FnD (K : PySem.W.Frag) (r : List V → Hp → VK → Prop) (xs : List PyData) (y : PyData) : Prop := ∀ (F H : Hp) (vs : List V) (Q : VK), Ex F H → RpA K F vs xs → (∀ v F' H', Gr F H F' H' → Rp K F' v y → Q v H') → r vs H Q
/-- .. to a new object -/
def FnN (K : PySem.W.Frag) (r : List V → Hp → VK → Prop) (xs : List PyData) (c : Ct) : Prop := ∀ (F H : Hp) (vs : List V) (Q : VK), Ex F H → RpA K F vs xs → (∀ p F' H', Gr F H F' H' → H p = none → F' p = none → Own1 K F' H' p c → Q (.ref p) H') → r vs H Q
section
variable {X : Cx} {W : WX} {e a b c : Expr} {es : List Expr} {p pos pos' apos : Pos} {ρ ρ' ρ1 ρ2 ρ3 : En} {x y z : PyData} {xs ys zs ds : List PyData} {i j : Int} {k : Nat} {w : Str} {s t : Str} {id T : String} {r : List V → Hp → VK → Prop} {ct : Ct}
theorem pd_bi (hc : CallR X (.builtin id) r) (hf : FnD X.K r ds y) (ha : AD X (e :: es) ρ ds ρ1) (hm : X.mg w = none) (hv : bootBuiltins w = some (.builtin id) := by rfl) (hg : Gl X w := by rfl) (hn : w ≠ "__name__" := by decide) (hdb : (w == ("__debug__" : Str)) = false := by decide)
    (he : starEach (e :: es) X.env = (false, eval e X.env) :: starEach es X.env := by rfl) (hpl : (backTo pos (starEach es X.env)).any (·.1) = false := by rfl) : PD X (.Call (.Name w p) (e :: es) [] pos) ρ y ρ1 :=
  PE_imp (pe_callB hc hg hm hv ha hn hdb he hpl) fun σ H Q ⟨C, F, se, q⟩ => ⟨C, F, se, fun vs F1 H1 x1 e1 r1 => hf F1 H1 vs Q e1.fr.ext r1 fun v F2 H2 g r2 => q v F2 H2 (x1.trans g.f) (e1.grow g) r2⟩
theorem pd_ty (hc : CallR X (.type T) r) (hf : FnD X.K r ds y) (ha : AD X (e :: es) ρ ds ρ1) (hm : X.mg w = none) (hv : bootBuiltins w = some (.type T) := by rfl) (hg : Gl X w := by rfl) (hn : w ≠ "__name__" := by decide) (hdb : (w == ("__debug__" : Str)) = false := by decide)
    (he : starEach (e :: es) X.env = (false, eval e X.env) :: starEach es X.env := by rfl) (hpl : (backTo pos (starEach es X.env)).any (·.1) = false := by rfl) : PD X (.Call (.Name w p) (e :: es) [] pos) ρ y ρ1 :=
  PE_imp (pe_callTy hc hg hm hv ha hn hdb he hpl) fun σ H Q ⟨C, F, se, q⟩ => ⟨C, F, se, fun vs F1 H1 x1 e1 r1 => hf F1 H1 vs Q e1.fr.ext r1 fun v F2 H2 g r2 => q v F2 H2 (x1.trans g.f) (e1.grow g) r2⟩
theorem pn_of {K : PySem.W.Frag} {C : Cn} {F F1 H1 : Hp} {σ : L2.St} {Q : VK} (x1 : Ex F F1) (e1 : SE K C F1 H1 σ ρ1) (q : ∀ p F' H', Ex F F' → SE K C F' H' σ ρ1 → F' p = none → C.H0 p = none → (∀ j, ¬ Owns σ ρ1 j p) → Own1 K F' H' p ct → Q (.ref p) H') :
    ∀ p F' H', Gr F1 H1 F' H' → H1 p = none → F' p = none → Own1 K F' H' p ct → Q (.ref p) H' := fun p F2 H2 g hp fp o => q p F2 H2 (x1.trans g.f) (e1.grow g) fp (e1.fr.there p hp) (not_owns_new e1 hp) o
theorem pn_bi (hc : CallR X (.builtin id) r) (hf : FnN X.K r ds ct) (ha : AD X (e :: es) ρ ds ρ1) (hm : X.mg w = none) (hv : bootBuiltins w = some (.builtin id) := by rfl) (hg : Gl X w := by rfl) (hn : w ≠ "__name__" := by decide) (hdb : (w == ("__debug__" : Str)) = false := by decide)
    (he : starEach (e :: es) X.env = (false, eval e X.env) :: starEach es X.env := by rfl) (hpl : (backTo pos (starEach es X.env)).any (·.1) = false := by rfl) : PN X (.Call (.Name w p) (e :: es) [] pos) ρ ct ρ1 :=
  PE_imp (pe_callB hc hg hm hv ha hn hdb he hpl) fun σ H Q ⟨C, F, se, q⟩ => ⟨C, F, se, fun vs F1 H1 x1 e1 r1 => hf F1 H1 vs Q e1.fr.ext r1 (pn_of x1 e1 q)⟩
theorem pn_ty (hc : CallR X (.type T) r) (hf : FnN X.K r ds ct) (ha : AD X (e :: es) ρ ds ρ1) (hm : X.mg w = none) (hv : bootBuiltins w = some (.type T) := by rfl) (hg : Gl X w := by rfl) (hn : w ≠ "__name__" := by decide) (hdb : (w == ("__debug__" : Str)) = false := by decide)
    (he : starEach (e :: es) X.env = (false, eval e X.env) :: starEach es X.env := by rfl) (hpl : (backTo pos (starEach es X.env)).any (·.1) = false := by rfl) : PN X (.Call (.Name w p) (e :: es) [] pos) ρ ct ρ1 :=
  PE_imp (pe_callTy hc hg hm hv ha hn hdb he hpl) fun σ H Q ⟨C, F, se, q⟩ => ⟨C, F, se, fun vs F1 H1 x1 e1 r1 => hf F1 H1 vs Q e1.fr.ext r1 (pn_of x1 e1 q)⟩
theorem ad_one (h : PD X e ρ x ρ1) (hs : starEach [e] X.env = (false, eval e X.env) :: starEach [] X.env := by rfl) : AD X [e] ρ [x] ρ1 := ad_cons h ad_nil hs
theorem ad_two (ha : PD X a ρ x ρ1) (hb : PD X b ρ1 y ρ2) (hs : starEach [a, b] X.env = (false, eval a X.env) :: starEach [b] X.env := by rfl) (hs2 : starEach [b] X.env = (false, eval b X.env) :: starEach [] X.env := by rfl) : AD X [a, b] ρ [x, y] ρ2 := ad_cons ha (ad_one hb hs2) hs

/-! ### ints -/
theorem pd_abs (hm : X.mg ("abs" : Str) = none) (ha : PD X a ρ (.int i) ρ1) (hg : Gl X "abs" := by rfl) (he : starEach [a] X.env = (false, eval a X.env) :: starEach [] X.env := by rfl) : PD X (.Call (.Name "abs" p) [a] [] pos) ρ (.int (i.natAbs : Int)) ρ1 :=
  pd_bi call_abs (fun F H vs Q e r q => by
    obtain ⟨v, rfl, h⟩ := rpa_one r
    rw [rp_int h]
    refine ⟨i, rfl, q _ F H (.refl e) ?_⟩
    rw [show (if i < 0 then -i else i) = (i.natAbs : Int) by split <;> omega]
    exact .int _) (ad_one ha he) hm rfl hg (by decide) (by decide) he
theorem pd_int1 (hm : X.mg ("int" : Str) = none) (ha : PD X a ρ (.int i) ρ1) (hg : Gl X "int" := by rfl) (he : starEach [a] X.env = (false, eval a X.env) :: starEach [] X.env := by rfl) : PD X (.Call (.Name "int" p) [a] [] pos) ρ (.int i) ρ1 :=
  pd_ty call_int1 (fun F H vs Q e r q => by
    obtain ⟨v, rfl, h⟩ := rpa_one r
    rw [rp_int h]
    exact .inl ⟨i, rfl, q _ F H (.refl e) (.int _)⟩) (ad_one ha he) hm rfl hg (by decide) (by decide) he
theorem pd_max2 (hc : X.calm = true) (hm : X.mg ("max" : Str) = none) (ha : PD X a ρ (.int i) ρ1) (hb : PD X b ρ1 (.int j) ρ2) (hg : Gl X "max" := by rfl) (he : starEach [a, b] X.env = (false, eval a X.env) :: starEach [b] X.env := by rfl) (he2 : starEach [b] X.env = (false, eval b X.env) :: starEach [] X.env := by rfl) (hpl : (backTo pos (starEach [b] X.env)).any (·.1) = false := by rfl) :
    PD X (.Call (.Name "max" p) [a, b] [] pos) ρ (.int (max i j)) ρ2 :=
  pd_bi (call_max2 hc) (fun F H vs Q e r q => by
    obtain ⟨v, w, rfl, h, h'⟩ := rpa_two r
    rw [rp_int h, rp_int h']
    refine ⟨i, j, rfl, q _ F H (.refl e) ?_⟩
    rw [show (if j > i then j else i) = max i j by omega]
    exact .int _) (ad_two ha hb he he2) hm rfl hg (by decide) (by decide) he hpl
theorem pd_min2 (hc : X.calm = true) (hm : X.mg ("min" : Str) = none) (ha : PD X a ρ (.int i) ρ1) (hb : PD X b ρ1 (.int j) ρ2) (hg : Gl X "min" := by rfl) (he : starEach [a, b] X.env = (false, eval a X.env) :: starEach [b] X.env := by rfl) (he2 : starEach [b] X.env = (false, eval b X.env) :: starEach [] X.env := by rfl) (hpl : (backTo pos (starEach [b] X.env)).any (·.1) = false := by rfl) :
    PD X (.Call (.Name "min" p) [a, b] [] pos) ρ (.int (min i j)) ρ2 :=
  pd_bi (call_min2 hc) (fun F H vs Q e r q => by
    obtain ⟨v, w, rfl, h, h'⟩ := rpa_two r
    rw [rp_int h, rp_int h']
    refine ⟨i, j, rfl, q _ F H (.refl e) ?_⟩
    rw [show (if j < i then j else i) = min i j by omega]
    exact .int _) (ad_two ha hb he he2) hm rfl hg (by decide) (by decide) he hpl
theorem pd_mulW (hc : CMulW i j) (ha : PD X a ρ (.int i) ρ1) (hb : PD X b ρ1 (.int j) ρ2) : PD X (.BinOp a .Mult b pos) ρ (.int (i * j)) ρ2 := pd_op op_mulW (opd_I hc fun _ => .int _) ha hb
/-- // and % of any int by a small one -/
theorem pd_fdivN (hc : CDivN i j) (ha : PD X a ρ (.int i) ρ1) (hb : PD X b ρ1 (.int j) ρ2) : PD X (.BinOp a .FloorDiv b pos) ρ (.int (i.fdiv j)) ρ2 := pd_op op_fdivN (opd_I hc fun _ => .int _) ha hb
/-- a op b op c, of ints -/
def cmpI : CmpOp → Option (Int → Int → Bool)
  | .Lt => some fun i j => decide (i < j)
  | .LtE => some fun i j => decide (i ≤ j)
  | .Gt => some fun i j => decide (j < i)
  | .GtE => some fun i j => decide (j ≤ i)
  | _ => none
theorem op_cmpI {op : CmpOp} {f : Int → Int → Bool} (h : cmpI op = some f) : OpR X (compareOp op) (rI0 fun i j => .bl (f i j)) := by
  cases op <;> first | (cases h; first | exact op_lt | exact op_le | exact op_gt | exact op_ge) | cases h
theorem pd_chain {op op' : CmpOp} {f g : Int → Int → Bool} {l : Int} (hf : cmpI op = some f) (hg : cmpI op' = some g) (ha : PD X a ρ (.int i) ρ1) (hb : PD X b ρ1 (.int j) ρ2) (hc : f i j = true → PD X c ρ2 (.int l) ρ2)
    (hm : lastMarks [op, op'] [b, c] = false := by with_unfolding_all rfl) : PD X (.Compare a [op, op'] [b, c] pos) ρ (.bool (f i j && g j l)) ρ2 := by
  cases q : f i j with
  | true =>
    refine PE_imp (pe_chain (op_cmpI hf) (op_cmpI hg) ha hb (hc q) hm) fun σ H Q ⟨C, F, se, qq⟩ => ⟨C, F, se, fun v F1 H1 x1 e1 r1 => ⟨C, F1, e1, fun u F2 H2 x2 e2 r2 => ⟨i, j, rp_int r1, rp_int r2, true, congrArg V.bl q, ?_⟩⟩⟩
    rw [if_pos rfl]
    exact ⟨C, F2, e2, fun t F3 H3 x3 e3 r3 => ⟨j, l, rp_int r2, rp_int r3, qq _ F3 H3 (x1.trans (x2.trans x3)) e3 (by rw [Bool.true_and]; exact .bl _)⟩⟩
  | false =>
    have hc' : PE X c (fun _ _ _ => False) := ⟨fun _ _ _ _ _ _ h => h.elim⟩
    refine PE_imp (pe_chain (op_cmpI hf) (op_cmpI hg) ha hb hc' hm) fun σ H Q ⟨C, F, se, qq⟩ => ⟨C, F, se, fun v F1 H1 x1 e1 r1 => ⟨C, F1, e1, fun u F2 H2 x2 e2 r2 => ⟨i, j, rp_int r1, rp_int r2, false, congrArg V.bl q, ?_⟩⟩⟩
    rw [if_neg Bool.false_ne_true]
    exact qq _ F2 H2 (x1.trans x2) e2 (.bl _)
theorem td_chain {op op' : CmpOp} {f g : Int → Int → Bool} {l : Int} (hf : cmpI op = some f) (hg : cmpI op' = some g) (ha : PD X a ρ (.int i) ρ1) (hb : PD X b ρ1 (.int j) ρ2) (hc : f i j = true → PD X c ρ2 (.int l) ρ2)
    (hm : lastMarks [op, op'] [b, c] = false := by with_unfolding_all rfl) : TD X (.Compare a [op, op'] [b, c] pos) ρ (f i j && g j l) ρ2 := by
  cases q : f i j with
  | true =>
    refine PT_imp (pt_chain (op_cmpI hf) (op_cmpI hg) ha hb (hc q) hm) fun σ H Q ⟨C, F, se, qq⟩ => ⟨C, F, se, fun v F1 H1 x1 e1 r1 => ⟨C, F1, e1, fun u F2 H2 x2 e2 r2 => ⟨i, j, rp_int r1, rp_int r2, true, congrArg V.bl q, ?_⟩⟩⟩
    rw [if_pos rfl]
    exact ⟨C, F2, e2, fun t F3 H3 x3 e3 r3 => ⟨j, l, rp_int r2, rp_int r3, _, rfl, qq F3 H3 (x1.trans (x2.trans x3)) e3⟩⟩
  | false =>
    have hc' : PE X c (fun _ _ _ => False) := ⟨fun _ _ _ _ _ _ h => h.elim⟩
    refine PT_imp (pt_chain (op_cmpI hf) (op_cmpI hg) ha hb hc' hm) fun σ H Q ⟨C, F, se, qq⟩ => ⟨C, F, se, fun v F1 H1 x1 e1 r1 => ⟨C, F1, e1, fun u F2 H2 x2 e2 r2 => ⟨i, j, rp_int r1, rp_int r2, false, congrArg V.bl q, ?_⟩⟩⟩
    rw [if_neg Bool.false_ne_true]
    exact ⟨_, rfl, qq F2 H2 (x1.trans x2) e2⟩

/-! ### lists -/
theorem pd_len {src : Option Nat} (hm : X.mg ("len" : Str) = none) (h : PQ X a ρ src xs ρ1) (ok : SrcOk ρ1 src xs) (hg : Gl X "len" := by rfl) (he : starEach [a] X.env = (false, eval a X.env) :: starEach [] X.env := by rfl) : PD X (.Call (.Name "len" p) [a] [] pos) ρ (.int (xs.length : Int)) ρ1 :=
  PE_imp (pe_callB call_len hg hm rfl (pa_cons h pa_nil he) (by decide) (by decide) he) fun σ H Q ⟨C, F, se, q⟩ => ⟨C, F, se, fun v F1 H1 x1 e1 r1 => by
    obtain ⟨a, vs, rfl, l, rr⟩ := r1.look e1 ok
    exact ⟨_, _, rfl, .inl ⟨vs, l, rfl⟩, q _ F1 H1 x1 e1 (by rw [rr.length]; exact .int _)⟩⟩
theorem pd_lenT (hm : X.mg ("len" : Str) = none) (h : PD X a ρ (.tuple xs) ρ1) (hg : Gl X "len" := by rfl) (he : starEach [a] X.env = (false, eval a X.env) :: starEach [] X.env := by rfl) : PD X (.Call (.Name "len" p) [a] [] pos) ρ (.int (xs.length : Int)) ρ1 :=
  pd_bi call_len (fun F H vs Q e r q => by
    obtain ⟨v, rfl, h⟩ := rpa_one r
    cases h with
    | tup h1 h2 => exact ⟨_, _, rfl, .inr ⟨_, e.t h1, rfl⟩, q _ F H (.refl e) (by rw [h2.length]; exact .int _)⟩) (ad_one h he) hm rfl hg (by decide) (by decide) he
theorem pd_lenS (hl : s.length ≤ sizeLine) (hm : X.mg ("len" : Str) = none) (h : PD X a ρ (.str s) ρ1) (hg : Gl X "len" := by rfl) (he : starEach [a] X.env = (false, eval a X.env) :: starEach [] X.env := by rfl) : PD X (.Call (.Name "len" p) [a] [] pos) ρ (.int (s.length : Int)) ρ1 :=
  pd_bi call_len (fun F H vs Q e r q => by
    obtain ⟨v, rfl, h⟩ := rpa_one r
    rw [rp_str h]
    exact ⟨_, _, rfl, ⟨hl, rfl⟩, q _ F H (.refl e) (.int _)⟩) (ad_one h he) hm rfl hg (by decide) (by decide) he
theorem pn_list {src : Option Nat} (hm : X.mg ("list" : Str) = none) (h : PQ X a ρ src xs ρ1) (ok : SrcOk ρ1 src xs) (hg : Gl X "list" := by rfl) (he : starEach [a] X.env = (false, eval a X.env) :: starEach [] X.env := by rfl) : PN X (.Call (.Name "list" p) [a] [] pos) ρ (.l xs) ρ1 :=
  PE_imp (pe_callTy call_list_of hg hm rfl (pa_cons h pa_nil he) (by decide) (by decide) he) fun σ H Q ⟨C, F, se, q⟩ => ⟨C, F, se, fun v F1 H1 x1 e1 r1 => by
    obtain ⟨a, vs, rfl, l, rr⟩ := r1.look e1 ok
    refine ⟨a, vs, rfl, .inl l, fun p hp => ?_⟩
    obtain ⟨h1, h2, h3, h4⟩ := e1.lay (o := .lst vs) hp
    exact q p F1 _ x1 h1 h2 h3 h4 ⟨vs, upd_same, rr⟩⟩
theorem pn_listT (hm : X.mg ("list" : Str) = none) (h : PD X a ρ (.tuple xs) ρ1) (hg : Gl X "list" := by rfl) (he : starEach [a] X.env = (false, eval a X.env) :: starEach [] X.env := by rfl) : PN X (.Call (.Name "list" p) [a] [] pos) ρ (.l xs) ρ1 :=
  PE_imp (pe_callTy call_list_of hg hm rfl (pa_cons h pa_nil he) (by decide) (by decide) he) fun σ H Q ⟨C, F, se, q⟩ => ⟨C, F, se, fun v F1 H1 x1 e1 r1 => by
    cases r1 with
    | @tup a vs _ l rr =>
      refine ⟨a, vs, rfl, .inr (e1.fr.ext.t l), fun p hp => ?_⟩
      obtain ⟨h1, h2, h3, h4⟩ := e1.lay (o := .lst vs) hp
      exact q p F1 _ x1 h1 h2 h3 h4 ⟨vs, upd_same, rr⟩⟩
theorem pd_tuple {src : Option Nat} (hm : X.mg ("tuple" : Str) = none) (h : PQ X a ρ src xs ρ1) (ok : SrcOk ρ1 src xs) (hg : Gl X "tuple" := by rfl) (he : starEach [a] X.env = (false, eval a X.env) :: starEach [] X.env := by rfl) : PD X (.Call (.Name "tuple" p) [a] [] pos) ρ (.tuple xs) ρ1 :=
  PE_imp (pe_callTy call_tuple_of hg hm rfl (pa_cons h pa_nil he) (by decide) (by decide) he) fun σ H Q ⟨C, F, se, q⟩ => ⟨C, F, se, fun v F1 H1 x1 e1 r1 => by
    obtain ⟨a, vs, rfl, l, rr⟩ := r1.look e1 ok
    refine ⟨a, vs, rfl, .inl ⟨l, fun p hp => ?_⟩⟩
    exact q (.ref p) _ _ (x1.trans (.new (e1.fr.ext.none hp))) (e1.grow (.push e1.fr.ext hp)) (.tup (SqT.of upd_same) (rr.mono (.new (e1.fr.ext.none hp))))⟩
/-- of ints: their greatest, their least -/
def lmax (ns : List Int) : Int := match ns with | [] => 0 | n :: r => r.foldl max n
def lmin (ns : List Int) : Int := match ns with | [] => 0 | n :: r => r.foldl min n
theorem fmax_le : ∀ (r : List Int) (n : Int), n ≤ r.foldl max n ∧ (∀ y ∈ r, y ≤ r.foldl max n) ∧ (r.foldl max n = n ∨ r.foldl max n ∈ r)
  | [], n => ⟨Int.le_refl _, (fun y hy => nomatch hy), .inl rfl⟩
  | m :: r, n => by
    obtain ⟨h1, h2, h3⟩ := fmax_le r (max n m)
    refine ⟨?_, fun y hy => ?_, ?_⟩
    · show n ≤ r.foldl max (max n m); omega
    · show y ≤ r.foldl max (max n m)
      rcases List.mem_cons.mp hy with z | z
      · omega
      · exact h2 y z
    · show r.foldl max (max n m) = n ∨ r.foldl max (max n m) ∈ m :: r
      rcases h3 with z | z
      · rw [z]
        by_cases q : n ≤ m
        · exact .inr (by rw [show max n m = m by omega]; exact List.mem_cons_self)
        · exact .inl (by omega)
      · exact .inr (List.mem_cons_of_mem _ z)
theorem fmin_le : ∀ (r : List Int) (n : Int), r.foldl min n ≤ n ∧ (∀ y ∈ r, r.foldl min n ≤ y) ∧ (r.foldl min n = n ∨ r.foldl min n ∈ r)
  | [], n => ⟨Int.le_refl _, (fun y hy => nomatch hy), .inl rfl⟩
  | m :: r, n => by
    obtain ⟨h1, h2, h3⟩ := fmin_le r (min n m)
    refine ⟨?_, fun y hy => ?_, ?_⟩
    · show r.foldl min (min n m) ≤ n; omega
    · show r.foldl min (min n m) ≤ y
      rcases List.mem_cons.mp hy with z | z
      · omega
      · exact h2 y z
    · show r.foldl min (min n m) = n ∨ r.foldl min (min n m) ∈ m :: r
      rcases h3 with z | z
      · rw [z]
        by_cases q : m ≤ n
        · exact .inr (by rw [show min n m = m by omega]; exact List.mem_cons_self)
        · exact .inl (by omega)
      · exact .inr (List.mem_cons_of_mem _ z)
theorem lmax_mem {ns : List Int} (h : 0 < ns.length) : lmax ns ∈ ns := by
  cases ns with
  | nil => simp at h
  | cons n r =>
    rcases (fmax_le r n).2.2 with z | z
    · show r.foldl max n ∈ n :: r
      rw [z]; exact List.mem_cons_self
    · exact List.mem_cons_of_mem _ z
theorem lmax_le {ns : List Int} : ∀ y ∈ ns, y ≤ lmax ns := by
  cases ns with
  | nil => intro y h; cases h
  | cons n r =>
    intro y h
    rcases List.mem_cons.mp h with z | z
    · rw [z]; exact (fmax_le r n).1
    · exact (fmax_le r n).2.1 y z
theorem lmin_mem {ns : List Int} (h : 0 < ns.length) : lmin ns ∈ ns := by
  cases ns with
  | nil => simp at h
  | cons n r =>
    rcases (fmin_le r n).2.2 with z | z
    · show r.foldl min n ∈ n :: r
      rw [z]; exact List.mem_cons_self
    · exact List.mem_cons_of_mem _ z
theorem lmin_le {ns : List Int} : ∀ y ∈ ns, lmin ns ≤ y := by
  cases ns with
  | nil => intro y h; cases h
  | cons n r =>
    intro y h
    rcases List.mem_cons.mp h with z | z
    · rw [z]; exact (fmin_le r n).1
    · exact (fmin_le r n).2.1 y z
theorem pd_sum {ns : List Int} {src : Option Nat} (hc : X.calm = true) (hm : X.mg ("sum" : Str) = none) (h : PQ X a ρ src (ns.map .int) ρ1) (ok : SrcOk ρ1 src (ns.map .int)) (hg : Gl X "sum" := by rfl) (he : starEach [a] X.env = (false, eval a X.env) :: starEach [] X.env := by rfl) : PD X (.Call (.Name "sum" p) [a] [] pos) ρ (.int ns.sum) ρ1 :=
  PE_imp (pe_callB (cr_sum hc) hg hm rfl (pa_cons h pa_nil he) (by decide) (by decide) he) fun σ H Q ⟨C, F, se, q⟩ => ⟨C, F, se, fun v F1 H1 x1 e1 r1 => by
    obtain ⟨a, vs, rfl, l, rr⟩ := r1.look e1 ok
    rw [rr.ints_inv] at l
    exact ⟨_, ns, rfl, l, q _ F1 H1 x1 e1 (.int _)⟩⟩
theorem pd_maxL {ns : List Int} {src : Option Nat} (hc : X.calm = true) (hm : X.mg ("max" : Str) = none) (hn : 0 < ns.length) (h : PQ X a ρ src (ns.map .int) ρ1) (ok : SrcOk ρ1 src (ns.map .int)) (hg : Gl X "max" := by rfl) (he : starEach [a] X.env = (false, eval a X.env) :: starEach [] X.env := by rfl) : PD X (.Call (.Name "max" p) [a] [] pos) ρ (.int (lmax ns)) ρ1 :=
  PE_imp (pe_callB (cr_max hc) hg hm rfl (pa_cons h pa_nil he) (by decide) (by decide) he) fun σ H Q ⟨C, F, se, q⟩ => ⟨C, F, se, fun v F1 H1 x1 e1 r1 => by
    obtain ⟨a, vs, rfl, l, rr⟩ := r1.look e1 ok
    rw [rr.ints_inv] at l
    refine ⟨_, ns, rfl, l, hn, fun m m1 m2 => q _ F1 H1 x1 e1 ?_⟩
    have := m2 _ (lmax_mem hn)
    have := lmax_le m m1
    rw [show lmax ns = m by omega]
    exact .int _⟩
theorem pd_minL {ns : List Int} {src : Option Nat} (hc : X.calm = true) (hm : X.mg ("min" : Str) = none) (hn : 0 < ns.length) (h : PQ X a ρ src (ns.map .int) ρ1) (ok : SrcOk ρ1 src (ns.map .int)) (hg : Gl X "min" := by rfl) (he : starEach [a] X.env = (false, eval a X.env) :: starEach [] X.env := by rfl) : PD X (.Call (.Name "min" p) [a] [] pos) ρ (.int (lmin ns)) ρ1 :=
  PE_imp (pe_callB (cr_min hc) hg hm rfl (pa_cons h pa_nil he) (by decide) (by decide) he) fun σ H Q ⟨C, F, se, q⟩ => ⟨C, F, se, fun v F1 H1 x1 e1 r1 => by
    obtain ⟨a, vs, rfl, l, rr⟩ := r1.look e1 ok
    rw [rr.ints_inv] at l
    refine ⟨_, ns, rfl, l, hn, fun m m1 m2 => q _ F1 H1 x1 e1 ?_⟩
    have := m2 _ (lmin_mem hn)
    have := lmin_le m m1
    rw [show lmin ns = m by omega]
    exact .int _⟩
theorem pd_any {bs : List Bool} {src : Option Nat} (hc : X.calm = true) (hm : X.mg ("any" : Str) = none) (h : PQ X a ρ src (bs.map .bool) ρ1) (ok : SrcOk ρ1 src (bs.map .bool)) (hg : Gl X "any" := by rfl) (he : starEach [a] X.env = (false, eval a X.env) :: starEach [] X.env := by rfl) : PD X (.Call (.Name "any" p) [a] [] pos) ρ (.bool (bs.any fun b => b)) ρ1 :=
  PE_imp (pe_callB (cr_any hc) hg hm rfl (pa_cons h pa_nil he) (by decide) (by decide) he) fun σ H Q ⟨C, F, se, q⟩ => ⟨C, F, se, fun v F1 H1 x1 e1 r1 => by
    obtain ⟨a, vs, rfl, l, rr⟩ := r1.look e1 ok
    rw [rr.bls_inv] at l
    exact ⟨_, bs, rfl, l, q _ F1 H1 x1 e1 (.bl _)⟩⟩
theorem pd_all {bs : List Bool} {src : Option Nat} (hc : X.calm = true) (hm : X.mg ("all" : Str) = none) (h : PQ X a ρ src (bs.map .bool) ρ1) (ok : SrcOk ρ1 src (bs.map .bool)) (hg : Gl X "all" := by rfl) (he : starEach [a] X.env = (false, eval a X.env) :: starEach [] X.env := by rfl) : PD X (.Call (.Name "all" p) [a] [] pos) ρ (.bool (bs.all fun b => b)) ρ1 :=
  PE_imp (pe_callB (cr_all hc) hg hm rfl (pa_cons h pa_nil he) (by decide) (by decide) he) fun σ H Q ⟨C, F, se, q⟩ => ⟨C, F, se, fun v F1 H1 x1 e1 r1 => by
    obtain ⟨a, vs, rfl, l, rr⟩ := r1.look e1 ok
    rw [rr.bls_inv] at l
    exact ⟨_, bs, rfl, l, q _ F1 H1 x1 e1 (.bl _)⟩⟩
/-- list + list, wherever they stand -/
def rCatL (K : PySem.W.Frag) : R2 := fun x y H Q => ∃ l b xs zs, x = .ref l ∧ y = .ref b ∧ SqL K H l xs ∧ SqL K H b zs ∧ xs.length + zs.length ≤ sizeLine ∧ ∀ p, H p = none → Q (.ref p) (upd H p (.lst (xs ++ zs)))
theorem op_catL : OpR X (binaryOp .Add) (rCatL X.K) := by
  intro pins s σ H x y v u Q I rx ry h
  obtain ⟨l, b, xs, zs, rfl, rfl, hH, hB, hz, q⟩ := h
  cases rx
  cases ry
  obtain ⟨its, r, hl, _⟩ := I.list hH
  obtain ⟨its2, r2, hb, _⟩ := I.list hB
  obtain ⟨⟨cls, dd, data, sl⟩, ho, hc, n, hd⟩ := id hl.isList
  obtain ⟨⟨cls2, dd2, data2, sl2⟩, ho2, hc2, n2, hd2⟩ := id hb.isList
  simp only at hc hd hc2 hd2
  subst hc hd hc2 hd2
  have e : its.toArray ++ its2.toArray = (its ++ its2).toArray := by simp
  have l1 := r.length
  have l2 := r2.length
  refine concat_meets ⟨_, ho, rfl⟩ ⟨_, ho2, rfl⟩ noFill_list_add seq_list_add PySem.F.slot_list_add PySem.F.entry_list_add (PySem.F.args_list_add_2 _ _) (list_addW l b its.toArray its2.toArray n n2 dd dd2 sl sl2 (by rw [List.size_toArray, List.size_toArray]; omega)) ⟨ho, ho2, ?_⟩
  rw [e]
  exact ⟨.ref _, _, I.lnew (t' := s.toks) (r.append r2) (by rw [List.length_append]; omega), rfl, q _ I.fresh⟩
theorem pn_cat {sa sb : Option Nat} (ha : PQ X a ρ sa xs ρ1) (oa : SrcOk ρ2 sa xs) (hb : PQ X b ρ1 sb ys ρ2) (ob : SrcOk ρ2 sb ys) (hl : xs.length + ys.length ≤ 100000) : PN X (.BinOp a .Add b pos) ρ (.l (xs ++ ys)) ρ2 :=
  PE_imp (pe_op op_catL ha hb) fun σ H Q ⟨C, F, se, q⟩ => ⟨C, F, se, fun v F1 H1 x1 e1 r1 => ⟨C, F1, e1, fun w F2 H2 x2 e2 r2 => by
    obtain ⟨a, vs, rfl, l1, rr1⟩ := (r1.mono x2).look e2 oa
    obtain ⟨b, ws, rfl, l2, rr2⟩ := r2.look e2 ob
    refine ⟨a, b, vs, ws, rfl, rfl, l1, l2, by rw [rr1.length, rr2.length]; exact line_of hl, fun p hp => ?_⟩
    obtain ⟨h1, h2, h3, h4⟩ := e2.lay (o := .lst (vs ++ ws)) hp
    exact q p F2 _ (x1.trans x2) h1 h2 h3 h4 ⟨vs ++ ws, upd_same, rr1.append rr2⟩⟩⟩
/-- xs[lo:hi] -/
def cutD (xs : List PyData) (lo hi : Option Int) : List PyData := (xs.drop (HT.sIx xs.length 0 lo)).take (HT.sIx xs.length xs.length hi - HT.sIx xs.length 0 lo)
abbrev OD (X : Cx) (e : Option Expr) (ρ : En) (o : Option Int) (ρ' : En) : Prop := PO X e (fun σ H Q => ∃ C F, SE X.K C F H σ ρ ∧ ∀ F' H', Ex F F' → SE X.K C F' H' σ ρ' → Q o H')
theorem PO_imp {o : Option Expr} {t t' : TO} (h : PO X o t) (i : ∀ σ H Q, t' σ H Q → t σ H Q) : PO X o t' := ⟨fun pins s σ H Q I q => h.run pins s σ H Q I (i _ _ _ q)⟩
theorem od_none : OD X none ρ none ρ := PO_imp po_none fun σ H Q ⟨C, F, se, q⟩ => q F H (.refl _) se
theorem od_some (h : PD X e ρ (.int i) ρ1) : OD X (some e) ρ (some i) ρ1 := PO_imp (po_some h) fun σ H Q ⟨C, F, se, q⟩ => ⟨C, F, se, fun v F1 H1 x1 e1 r1 => ⟨i, rp_int r1, q F1 H1 x1 e1⟩⟩
theorem pn_slice {src : Option Nat} {lo hi : Option Expr} {ol oh : Option Int} {p2 : Pos} (h : PQ X e ρ src xs ρ1) (hl : OD X lo ρ1 ol ρ2) (hh : OD X hi ρ2 oh ρ3) (ok : SrcOk ρ3 src xs) : PN X (.Subscript e (.Slice lo hi none p2) pos) ρ (.l (cutD xs ol oh)) ρ3 :=
  PE_imp (pe_slice sl_list h hl hh) fun σ H Q ⟨C, F, se, q⟩ => ⟨C, F, se, fun v F1 H1 x1 e1 r1 => ⟨C, F1, e1, fun F2 H2 x2 e2 => ⟨C, F2, e2, fun F3 H3 x3 e3 => by
    obtain ⟨a, vs, rfl, l, rr⟩ := (r1.mono (x2.trans x3)).look e3 ok
    refine ⟨a, vs, rfl, l, fun p hp => ?_⟩
    obtain ⟨h1, h2, h3, h4⟩ := e3.lay (o := .lst (cutV vs ol oh)) hp
    refine q p F3 _ (x1.trans (x2.trans x3)) h1 h2 h3 h4 ⟨_, upd_same, ?_⟩
    unfold cutV cutD
    rw [rr.length]
    exact (rr.drop _).take _⟩⟩⟩
/-! ### truth of values -/
theorem td_truthL {src : Option Nat} (h : PQ X a ρ src xs ρ1) (ok : SrcOk ρ1 src xs) (he : ∀ whole, isTrue a X.env whole = (do let v ← whole; standAt a.pos; holding [v] (truthy v)) := by intro _; rfl) : TD X a ρ (!xs.isEmpty) ρ1 :=
  PT_imp (pt_truth h he) fun σ H Q ⟨C, F, se, q⟩ => ⟨C, F, se, fun v F1 H1 x1 e1 r1 => by
    obtain ⟨a, vs, rfl, l, rr⟩ := r1.look e1 ok
    refine ⟨_, .inl ⟨vs, l, rfl⟩, ?_⟩
    rw [show vs.isEmpty = xs.isEmpty by cases rr <;> rfl]
    exact q F1 H1 x1 e1⟩
theorem td_truthI (h : PD X a ρ (.int i) ρ1) (he : ∀ whole, isTrue a X.env whole = (do let v ← whole; standAt a.pos; holding [v] (truthy v)) := by intro _; rfl) : TD X a ρ (i != 0) ρ1 :=
  PT_imp (pt_truth h he) fun σ H Q ⟨C, F, se, q⟩ => ⟨C, F, se, fun v F1 H1 x1 e1 r1 => by
    rw [rp_int r1]
    exact ⟨_, rfl, q F1 H1 x1 e1⟩⟩
theorem td_truthS (hl : s.length ≤ sizeLine) (h : PD X a ρ (.str s) ρ1) (he : ∀ whole, isTrue a X.env whole = (do let v ← whole; standAt a.pos; holding [v] (truthy v)) := by intro _; rfl) : TD X a ρ ((s.length : Int) != 0) ρ1 :=
  PT_imp (pt_truth h he) fun σ H Q ⟨C, F, se, q⟩ => ⟨C, F, se, fun v F1 H1 x1 e1 r1 => by
    rw [rp_str r1]
    exact ⟨_, ⟨hl, rfl⟩, q F1 H1 x1 e1⟩⟩
theorem td_truthT (h : PD X a ρ (.tuple xs) ρ1) (he : ∀ whole, isTrue a X.env whole = (do let v ← whole; standAt a.pos; holding [v] (truthy v)) := by intro _; rfl) : TD X a ρ (!xs.isEmpty) ρ1 :=
  PT_imp (pt_truth h he) fun σ H Q ⟨C, F, se, q⟩ => ⟨C, F, se, fun v F1 H1 x1 e1 r1 => by
    cases r1 with
    | @tup a vs _ h1 h2 =>
      refine ⟨_, .inr (.inl ⟨vs, e1.fr.ext.t h1, rfl⟩), ?_⟩
      rw [show vs.isEmpty = xs.isEmpty by cases h2 <;> rfl]
      exact q F1 H1 x1 e1⟩

/-! ### isinstance -/
def tyD : PyData → String
  | .none => "NoneType"
  | .bool _ => "bool"
  | .int _ => "int"
  | .str _ => "str"
  | .list _ => "list"
  | .tuple _ => "tuple"
  | .dict _ => "dict"
def isDct : PyData → Bool
  | .dict _ => true
  | _ => false
theorem tyx_of {K : PySem.W.Frag} {F H : Hp} {v : V} {x : PyData} (hd : isDct x = false) (e : Ex F H) (r : Rp K F v x) : TyX K H v (.type (tyD x)) := by
  cases r with
  | non => exact .base .non
  | bl b => exact .base (.bl b)
  | int b => exact .base (.int b)
  | str b => exact .base (.str b)
  | lst h _ =>
    rcases h with h | ⟨o, its, n, hk, hc, _⟩
    · rcases h with h | ⟨o, h⟩
      · exact .base (.lst (e _ _ h))
      · exact .base (.frz (e _ _ h))
    · exact .kList hk hc
  | tup h _ =>
    rcases h with h | ⟨o, its, n, hk, hc, _⟩
    · rcases h with h | ⟨o, h⟩
      · exact .base (.tup (e _ _ h))
      · exact .fTuple (e _ _ h)
    · exact .kTuple hk hc
  | dK h _ => cases hd
  | dT h _ _ => cases hd
theorem pe_cls {n : Str} {T : String} (hm : X.mg n = none) (hv : bootBuiltins n = some (.type T)) (hg : Gl X n := by rfl) (hn : n ≠ "__name__" := by decide) (hdb : (n == ("__debug__" : Str)) = false := by decide) : PE X (.Name n pos) (tC (.ty T)) := pe_bltn hg hm hv rfl hn hdb
theorem pd_isi {k : Bool} (hd : isDct x = false) (hk : kitB (tyD x) T = some k) (hm : X.mg ("isinstance" : Str) = none) (hc : PE X c (tC (.ty T))) (ha : PD X a ρ x ρ1) (hg : Gl X "isinstance" := by rfl) (he : starEach [a, c] X.env = (false, eval a X.env) :: starEach [c] X.env := by rfl) (he2 : starEach [c] X.env = (false, eval c X.env) :: starEach [] X.env := by rfl)
    (hpl : (backTo pos (starEach [c] X.env)).any (·.1) = false := by rfl) : PD X (.Call (.Name "isinstance" p) [a, c] [] pos) ρ (.bool k) ρ1 :=
  PE_imp (pe_callB call_isi hg hm rfl (pa_cons ha (pa_cons hc pa_nil he2) he) (by decide) (by decide) he hpl) fun σ H Q ⟨C, F, se, q⟩ => ⟨C, F, se, fun v F1 H1 x1 e1 r1 =>
    ⟨v, .ty T, .type (tyD x), .type T, k, rfl, .ty T, tyx_of hd e1.fr.ext r1, kit_ty hk, q _ F1 H1 x1 e1 (.bl _)⟩⟩
/-- isinstance(x, (T, U)) -/
theorem pd_isi2 {d : Expr} {U : String} {k1 k2 : Bool} {x1 : _} (hd : isDct x = false) (hk : kitB (tyD x) T = some k1) (hk2 : kitB (tyD x) U = some k2) (hm : X.mg ("isinstance" : Str) = none) (hc : PE X c (tC (.ty T))) (hc2 : PE X d (tC (.ty U))) (ha : PD X a ρ x ρ1) (hg : Gl X "isinstance" := by rfl)
    (he : starEach [a, .Tuple [c, d] x1 pos'] X.env = (false, eval a X.env) :: starEach [.Tuple [c, d] x1 pos'] X.env := by rfl) (he2 : starEach [.Tuple [c, d] x1 pos'] X.env = (false, eval (.Tuple [c, d] x1 pos') X.env) :: starEach [] X.env := by rfl)
    (hs : starEach [c, d] X.env = (false, eval c X.env) :: starEach [d] X.env := by rfl) (hs2 : starEach [d] X.env = (false, eval d X.env) :: starEach [] X.env := by rfl)
    (hpl : (backTo pos (starEach [.Tuple [c, d] x1 pos'] X.env)).any (·.1) = false := by rfl) : PD X (.Call (.Name "isinstance" p) [a, .Tuple [c, d] x1 pos'] [] pos) ρ (.bool (k1 || k2)) ρ1 := by
  refine PE_imp (pe_callB call_isiT hg hm rfl (pa_cons ha (pa_cons (pe_tup (pa_cons hc (pa_cons hc2 pa_nil hs2) hs)) pa_nil he2) he) (by decide) (by decide) he hpl) fun σ H Q ⟨C, F, se, q⟩ => ⟨C, F, se, fun v F1 H1 x1 e1 r1 => ⟨line_of (show 2 ≤ 100000 by decide), fun tp hp => ?_⟩⟩
  refine ⟨v, tp, [.ty T, .ty U], .type (tyD x), [.type T, .type U], k1 || k2, rfl, upd_same, .cons (.ty T) (.cons (.ty U) .nil), ?_, ?_, ?_⟩
  · exact tyx_of hd (e1.fr.ext.trans (.new hp)) r1
  · refine kitAny_cons (kit_ty hk) (fun z => ?_) (fun z => by rw [z]; rfl)
    subst z
    refine kitAny_cons (kit_ty hk2) (fun z => ?_) (fun z => by rw [z]; rfl)
    subst z
    exact kitAny_nil
  · exact q _ F1 _ x1 (e1.lay hp).1 (.bl _)
end
end G

/-! GHead: a law's own call. -/
namespace G
open PySem PySem.Spec PyProof.Rows L2
theorem fn_shut {P : Program} {w : World} {K : PySem.W.Frag} {mg : Str → Option Value} {base : Heap} {k : Nat} {f : Addr} {fd : FuncData} {ps : List Str} {sp : Sp} (F : FnOk P w K mg base (L2.CX P w) k f fd ps sp) : FnOk P w K mg base CX0 k f fd ps (fun vs H Q _ => sp vs H Q E0) := by
  refine ⟨fun vs H Q E h => F.len vs H Q E0 h, fun A outer s H args us vs Q E hr he hb hv hs => codeAny_mono (F.run A outer s H args us vs Q E0 hr he hb hv hs) fun r s' hq => ?_⟩
  cases r with
  | error e =>
    obtain ⟨_, _, _, _, _, _, _, _, _, _, _, _, z⟩ := hq
    exact z.elim
  | ok fl => cases fl <;> exact hq
/-- what is asked of a law's def: true of every script -/
def LawS (ds : List PyData) (r : Res) : Prop := ∃ ns : List Int, ds = [.list (ns.map .int)] ∧ ns.length ≤ 63 ∧ r = .ret (.bool true)
theorem law_end {K : PySem.W.Frag} (H : Hp) (a : Addr) (ns : List Int) (hl : ns.length ≤ 63) (hS : SqL K H a (ns.map V.int)) : spD K LawS [.ref a] H (fun v _ => v = .bl true) E0 :=
  ⟨H, [.list (ns.map .int)], .ret (.bool true), .refl H, .cons (.lst hS (.ints ns)) .nil, ⟨ns, rfl, hl, rfl⟩, fun v F' H' g r => rp_bool r⟩
end G

/-! GTyped: the rules over typed data. -/
namespace G
open PySem PySem.Spec PyProof.Rows L2

/-! ### typed data -/
abbrev dL {α : Type} (f : α → PyData) (xs : List α) : PyData := .list (xs.map f)
abbrev dT2 {α β : Type} (f : α → PyData) (g : β → PyData) (p : α × β) : PyData := .tuple [f p.1, g p.2]
abbrev dT3 {α β γ : Type} (f : α → PyData) (g : β → PyData) (h : γ → PyData) (p : α × β × γ) : PyData := .tuple [f p.1, g p.2.1, h p.2.2]
abbrev dT4 {α β γ δ : Type} (f : α → PyData) (g : β → PyData) (h : γ → PyData) (j : δ → PyData) (p : α × β × γ × δ) : PyData := .tuple [f p.1, g p.2.1, h p.2.2.1, j p.2.2.2]
def dO {α : Type} (f : α → PyData) : Option α → PyData
  | none => .none
  | some a => f a
/-- xs[i] -/
def gI {α : Type} [Inhabited α] (xs : List α) (i : Int) : α := if i < 0 then xs[(i + xs.length).toNat]! else xs[i.toNat]!
theorem gI_nat {α : Type} [Inhabited α] {xs : List α} {n : Nat} : gI xs (n : Int) = xs[n]! := by
  unfold gI
  rw [if_neg (by omega), Int.toNat_natCast]
theorem gI_at {α : Type} [Inhabited α] {f : α → PyData} {xs : List α} {i : Int} (h : -(xs.length : Int) ≤ i ∧ i < xs.length) : atI (xs.map f) i = some (f (gI xs i)) := by
  have key : ∀ n : Nat, n < xs.length → (xs.map f)[n]? = some (f xs[n]!) := fun n hn => by
    rw [List.getElem?_map, List.getElem?_eq_getElem hn, getElem!_pos xs n hn]; rfl
  unfold atI ixN gI
  rw [List.length_map]
  by_cases q : 0 ≤ i
  · rw [if_pos q, if_pos h.2, if_neg (by omega)]
    exact key _ (by omega)
  · rw [if_neg q, if_pos h.1, if_pos (by omega)]
    exact key _ (by omega)
theorem gI_mem {α : Type} [Inhabited α] {xs : List α} {i : Int} (h : -(xs.length : Int) ≤ i ∧ i < xs.length) : gI xs i ∈ xs := by
  have key : ∀ n : Nat, n < xs.length → xs[n]! ∈ xs := fun n hn => by
    rw [getElem!_pos xs n hn]; exact List.getElem_mem hn
  unfold gI
  by_cases q : 0 ≤ i
  · rw [if_neg (by omega)]; exact key _ (by omega)
  · rw [if_pos (by omega)]; exact key _ (by omega)
section
variable {X : Cx} {W : WX} {e a b c tg iter elt : Expr} {es : List Expr} {p pos pos' : Pos} {ρ ρ' ρ1 ρ2 ρ3 ρA ρB : En} {x y z : PyData} {st : Stmt} {rest A B body : List Stmt} {D : DE} {k k' : Bool} {i j : Int} {w : Str} {α β γ S R : Type} {f : α → PyData} {ns ms : List α}
theorem pd_cast (h : x = y) (hp : PD X e ρ x ρ') : PD X e ρ y ρ' := h ▸ hp
theorem td_cast (h : k = k') (hp : TD X e ρ k ρ') : TD X e ρ k' ρ' := h ▸ hp
theorem pn_cast {ct ct' : Ct} (h : ct = ct') (hp : PN X e ρ ct ρ') : PN X e ρ ct' ρ' := h ▸ hp
theorem pd_env (h : ρ1 = ρ2) (hp : PD X e ρ x ρ1) : PD X e ρ x ρ2 := h ▸ hp
theorem pd_gix [Inhabited α] {src : Option Nat} (h : -(ns.length : Int) ≤ i ∧ i < ns.length) (ok : SrcOk ρ2 src (ns.map f)) (ha : PQ X a ρ src (ns.map f) ρ1) (hb : PD X b ρ1 (.int i) ρ2) (hs : PlainIx b := by intro _ _; rfl) : PD X (.Subscript a b pos) ρ (f (gI ns i)) ρ2 := pd_ixL (gI_at h) ok ha hb hs
theorem pd_ift (f : α → PyData) (u v : α) (hc : TD X c ρ k ρ1) (ha : k = true → PD X a ρ1 (f u) ρ2) (hb : k = false → PD X b ρ1 (f v) ρ2) : PD X (.IfExp c a b pos) ρ (f (if k = true then u else v)) ρ2 := by
  have h := pd_if (pos := pos) hc ha hb
  cases k <;> exact h
theorem pn_catM {sa sb : Option Nat} (ha : PQ X a ρ sa (ns.map f) ρ1) (oa : SrcOk ρ2 sa (ns.map f)) (hb : PQ X b ρ1 sb (ms.map f) ρ2) (ob : SrcOk ρ2 sb (ms.map f)) (hl : ns.length + ms.length ≤ 100000) : PN X (.BinOp a .Add b pos) ρ (.l ((ns ++ ms).map f)) ρ2 := by
  rw [List.map_append]
  exact pn_cat ha oa hb ob (by rw [List.length_map, List.length_map]; exact hl)
/-- xs[lo:hi] -/
def cutG (xs : List α) (lo hi : Option Int) : List α := (xs.drop (HT.sIx xs.length 0 lo)).take (HT.sIx xs.length xs.length hi - HT.sIx xs.length 0 lo)
theorem pn_sliceM {src : Option Nat} {lo hi : Option Expr} {ol oh : Option Int} {p2 : Pos} (h : PQ X e ρ src (ns.map f) ρ1) (hl : OD X lo ρ1 ol ρ2) (hh : OD X hi ρ2 oh ρ3) (ok : SrcOk ρ3 src (ns.map f)) : PN X (.Subscript e (.Slice lo hi none p2) pos) ρ (.l ((cutG ns ol oh).map f)) ρ3 := by
  have := pn_slice (pos := pos) (p2 := p2) h hl hh ok
  unfold cutD at this
  rw [List.length_map, ← List.map_drop, ← List.map_take] at this
  exact this
theorem cutG_from (xs : List α) (n : Nat) (h : n ≤ xs.length) : cutG xs (some (n : Int)) none = xs.drop n := by
  unfold cutG
  rw [HT.sIx_nat, HT.sIx_none, Nat.min_eq_left h, List.take_of_length_le (by rw [List.length_drop]; omega)]
theorem cutG_to (xs : List α) (n : Nat) (h : n ≤ xs.length) : cutG xs none (some (n : Int)) = xs.take n := by
  unfold cutG
  rw [HT.sIx_nat, HT.sIx_none, Nat.min_eq_left h, List.drop_zero, Nat.sub_zero]
theorem cutG_mid (xs : List α) (m n : Nat) (h : m ≤ xs.length) (h2 : n ≤ xs.length) : cutG xs (some (m : Int)) (some (n : Int)) = (xs.drop m).take (n - m) := by
  unfold cutG
  rw [HT.sIx_nat, HT.sIx_nat, Nat.min_eq_left h, Nat.min_eq_left h2]
theorem sd_appendM {o : Str} {p1 p2 p3 : Pos} {pa pb : Option Addr} {ys : List PyData} {v : α} (i : Nat) (h0 : ρ[i]? = some (.o pa (.l ys))) (he : PD X e ρ (f v) ρ1) (h1 : ρ1[i]? = some (.o pb (.l (ns.map f)))) (hl : ns.length < 100000) (h : D.nx (ρ1.set i (.o pb (.l ((ns ++ [v]).map f)))))
    (hN : X.N[i]? = some o := by rfl) (hv : Vis X.env.scope o := by first | exact Or.inl rfl | exact Or.inr (Or.inl rfl) | exact Or.inr (Or.inr rfl)) (hd : (o == ("__debug__" : Str)) = false := by decide) (hcd : (o == ("__classdict__" : Str)) = false := by decide)
    (hbase : attributeBase (.Name o p1) "append" X.env (eval (.Name o p1) X.env) = eval (.Name o p1) X.env := by rfl)
    (hfew : ((backTo p3 (starEach [e] X.env)).all (fun x => !x.1) && (backToKw p3 (keywordEach [] X.env)).all (fun x => x.1.isSome)
      && decide ([e].length + ([] : List Keyword).length + (if ([] : List Keyword).isEmpty then 0 else 1) < 30)) = true := by rfl)
    (hline : (p2.endLine == p3.line) = true := by rfl) (hs : starEach [e] X.env = (false, eval e X.env) :: starEach [] X.env := by rfl)
    (hsw : swapsWith (.Call (.Attribute (.Name o p1) "append" p2) [e] [] p3) none pos.line X.env = pure false := by rfl) :
    SD X W (.Expr (.Call (.Attribute (.Name o p1) "append" p2) [e] [] p3) pos) ρ D := by
  refine sd_append i h0 he h1 (by rw [List.length_map]; exact hl) ?_ hN hv hd hcd hbase hfew hline hs hsw
  rw [List.map_append] at h
  exact h

/-! ### if, joined -/
/-- in each branch the same shape of slots -/
theorem bd_ite (ρM : En) (hc : TD X c ρ k ρ1) (ha : k = true → BD X W A ρ1 { D with nx := fun r => Le ρM r }) (hb : k = false → BD X W B ρ1 { D with nx := fun r => Le ρM r }) (hr : BD X W rest ρM D) : BD X W (.If c A B pos :: rest) ρ D :=
  bd_cut (fun r => Le ρM r) (sd_if hc ha hb) fun r l => bd_le l hr

/-! ### for, as a fold -/
theorem take_succ_of {xs : List α} {i : Nat} {a : α} (h : xs[i]? = some a) : xs.take (i + 1) = xs.take i ++ [a] := by
  rw [List.take_add_one, h]; rfl
theorem sd_forF (xs : List α) (td : α → PyData) (sh : S → En) (step : S → α → S) (s0 : S) (Pv : Nat → S → Prop) {ok : En → Prop} (hp : PassesOwn (model X.prog X.w) X.A X.env X.xe) (hc : X.calm = true) (hi : ID X tg iter ρ (xs.map td) ok none ρ1) (h0 : Le (sh s0) ρ1) (p0 : Pv 0 s0) (hok : ∀ s, ok (sh s))
    (hb : ∀ i s a, xs[i]? = some a → s = (xs.take i).foldl step s0 → Pv i s → ∃ ρ2, GD X tg (td a) (sh s) ρ2 ∧ BD X W body ρ2 { D with nx := fun r => Le (sh (step s a)) r ∧ Pv (i + 1) (step s a), ct := fun r => Le (sh (step s a)) r ∧ Pv (i + 1) (step s a), bk := D.nx })
    (hd : ∀ s, s = xs.foldl step s0 → Pv xs.length s → D.nx (sh s)) (hf : ∀ x, foldedSetIterable iter X.env x = pure x := by intro _; rfl) : SD X W (.For tg iter body [] pos) ρ D := by
  refine sd_for (fun i r => ∃ s, s = (xs.take i).foldl step s0 ∧ r = sh s ∧ Pv i s) hp hc hi ⟨_, h0, s0, by simp, rfl, p0⟩ (fun i r ⟨s, _, h, _⟩ => h ▸ hok s) ?_ ?_ hf
  · rintro i d r hd2 ⟨s, hs, rfl, pv⟩
    rw [List.getElem?_map] at hd2
    cases q : xs[i]? with
    | none => rw [q] at hd2; cases hd2
    | some a =>
      rw [q] at hd2; cases hd2
      obtain ⟨ρ2, g, bb⟩ := hb i s a q hs pv
      have nxt : ∀ r, Le (sh (step s a)) r ∧ Pv (i + 1) (step s a) → Lee (fun r => ∃ s, s = (xs.take (i + 1)).foldl step s0 ∧ r = sh s ∧ Pv (i + 1) s) r := fun r ⟨l, p⟩ => ⟨_, l, step s a, by rw [take_succ_of q, List.foldl_append, ← hs]; rfl, rfl, p⟩
      exact ⟨ρ2, g, bd_post { nx := nxt, ct := nxt } bb⟩
  · rintro r ⟨s, hs, rfl, pv⟩
    rw [List.length_map] at hs pv
    rw [List.take_length] at hs
    exact hd s hs pv
/-- the wishes within a loop that may give back, or raise, or break ahead of its end -/
def deE {α S R : Type} (D : DE) (xs : List α) (s0 : S) (step : S → α → Except R S) (s : S) (a : α) (nxt : En → Prop) : DE := { nx := nxt, ct := nxt, bk := fun r => ∃ q, step s a = .error q ∧ (xs.foldlM step s0 = .error q → D.nx r), rt := fun v r => ∃ q, step s a = .error q ∧ (xs.foldlM step s0 = .error q → D.rt v r), ex := fun v f r => ∃ q, step s a = .error q ∧ (xs.foldlM step s0 = .error q → D.ex v f r), rn := fun v r => ∃ q, step s a = .error q ∧ (xs.foldlM step s0 = .error q → D.rn v r) }
theorem deE_le {α S R : Type} {D : DE} {xs : List α} {s0 : S} {step : S → α → Except R S} {s : S} {a : α} {nxt nxt' : En → Prop} (he : ∀ q, step s a = .error q → xs.foldlM step s0 = .error q) (hn : ∀ r, nxt r → nxt' r) : (deE D xs s0 step s a nxt).Le { D with nx := nxt', ct := nxt', bk := D.nx } :=
  { nx := hn, ct := hn, bk := fun r ⟨q', h1, h2⟩ => h2 (he q' h1), rt := fun v r ⟨q', h1, h2⟩ => h2 (he q' h1), ex := fun v f r ⟨q', h1, h2⟩ => h2 (he q' h1), rn := fun v r ⟨q', h1, h2⟩ => h2 (he q' h1) }
/-- .. that may give back, or raise, or break ahead of its end -/
theorem sd_forE (xs : List α) (td : α → PyData) (sh : S → En) (step : S → α → Except R S) (s0 : S) (Pv : Nat → S → Prop) {ok : En → Prop} (hp : PassesOwn (model X.prog X.w) X.A X.env X.xe) (hc : X.calm = true) (hi : ID X tg iter ρ (xs.map td) ok none ρ1) (h0 : Le (sh s0) ρ1) (p0 : Pv 0 s0) (hok : ∀ s, ok (sh s))
    (hb : ∀ i s a, xs[i]? = some a → (xs.take i).foldlM step s0 = .ok s → Pv i s → ∃ ρ2, GD X tg (td a) (sh s) ρ2 ∧ BD X W body ρ2 (deE D xs s0 step s a fun r => ∃ s', step s a = .ok s' ∧ Le (sh s') r ∧ Pv (i + 1) s'))
    (hd : ∀ s, xs.foldlM step s0 = .ok s → Pv xs.length s → D.nx (sh s)) (hf : ∀ x, foldedSetIterable iter X.env x = pure x := by intro _; rfl) : SD X W (.For tg iter body [] pos) ρ D := by
  have errs : ∀ (i : Nat) (s : S) (a : α) (q : R), xs[i]? = some a → (xs.take i).foldlM step s0 = .ok s → step s a = .error q → xs.foldlM step s0 = .error q := fun i s a q h1 h2 h3 => by
    have e : xs = xs.take i ++ a :: xs.drop (i + 1) := by
      have hlt : i < xs.length := by
        by_cases z : i < xs.length
        · exact z
        · rw [List.getElem?_eq_none (by omega)] at h1; cases h1
      rw [List.getElem?_eq_getElem hlt] at h1
      cases h1
      rw [← List.drop_eq_getElem_cons hlt, List.take_append_drop]
    rw [e, List.foldlM_append, h2]
    show (step s a >>= fun s' => (xs.drop (i + 1)).foldlM step s') = _
    rw [h3]; rfl
  refine sd_for (fun i r => ∃ s, (xs.take i).foldlM step s0 = .ok s ∧ r = sh s ∧ Pv i s) hp hc hi ⟨_, h0, s0, by simp; rfl, rfl, p0⟩ (fun i r ⟨s, _, h, _⟩ => h ▸ hok s) ?_ ?_ hf
  · rintro i d r hd2 ⟨s, hs, rfl, pv⟩
    rw [List.getElem?_map] at hd2
    cases q : xs[i]? with
    | none => rw [q] at hd2; cases hd2
    | some a =>
      rw [q] at hd2; cases hd2
      obtain ⟨ρ2, g, bb⟩ := hb i s a q hs pv
      have nxt : ∀ r, (∃ s', step s a = .ok s' ∧ Le (sh s') r ∧ Pv (i + 1) s') → Lee (fun r => ∃ s, (xs.take (i + 1)).foldlM step s0 = .ok s ∧ r = sh s ∧ Pv (i + 1) s) r := fun r ⟨s', h, l, p⟩ => ⟨_, l, s', by
        rw [take_succ_of q, List.foldlM_append, hs]
        show (step s a >>= fun s' => pure s') = _
        rw [h]; rfl, rfl, p⟩
      exact ⟨ρ2, g, bd_post (deE_le (fun q' h1 => errs i s a q' q hs h1) nxt) bb⟩
  · rintro r ⟨s, hs, rfl, pv⟩
    rw [List.length_map] at hs pv
    rw [List.take_length] at hs
    exact hd s hs pv

theorem tsd_nil_of {Y : Cx} {scope : Scope} (h : IsBlk X scope Y) : PTs Y [] (tT X.K ρ true ρ) := by
  obtain ⟨s, H, C, cl, fp, rfl⟩ := h
  exact tsd_nil
/-! ### comprehensions -/
/-- X in the block: what is of use there -/
theorem lcM (xs : List α) (td : α → PyData) (fd : β → PyData) (keep : α → Bool) (val : α → β) {scope : Scope} {own : List (Str × Nat)} {ifs : List Expr} {src : Option Nat} {ok : En → Prop} (hb : BlkOk X.N X.env.scope scope own) (hi : ID X tg iter ρ (xs.map td) ok src ρ1) (hlen : xs.length < 100000) (hsrc : ∀ j, src = some j → j ∉ own.map (·.2)) (hok : ok (wipeE ρ1 (own.map (·.2))))
    (hT : ∀ a, a ∈ xs → ∃ ρt ρe, (∀ Y, IsBlk X scope Y → GV Y (own.map (·.2)) tg (td a) (wipeE ρ1 (own.map (·.2))) ρt) ∧ (∀ Y, IsBlk X scope Y → PTs Y ifs (tT X.K ρt (keep a) ρt)) ∧ (∀ Y, IsBlk X scope Y → keep a = true → PE Y elt (tP X.K ρt (fd (val a)) ρe)) ∧ Le (wipeE ρ1 (own.map (·.2))) ρt ∧ Le (wipeE ρ1 (own.map (·.2))) ρe): LcOk X elt tg iter ifs scope ρ (.l (((xs.filter keep).map val).map fd)) (restE ρ1 ρ1 (own.map (·.2))) := by
  have cho : ∀ p : { a // a ∈ xs }, ∃ q : En × En, (∀ Y, IsBlk X scope Y → GV Y (own.map (·.2)) tg (td p.1) (wipeE ρ1 (own.map (·.2))) q.1) ∧ (∀ Y, IsBlk X scope Y → PTs Y ifs (tT X.K q.1 (keep p.1) q.1)) ∧ (∀ Y, IsBlk X scope Y → keep p.1 = true → PE Y elt (tP X.K q.1 (fd (val p.1)) q.2)) ∧ Le (wipeE ρ1 (own.map (·.2))) q.1 ∧ Le (wipeE ρ1 (own.map (·.2))) q.2 := fun p => by
    obtain ⟨ρt, ρe, h⟩ := hT p.1 p.2
    exact ⟨(ρt, ρe), h⟩
  let T : Nat → Turn := fun i => if h : i < xs.length then
      let q := Classical.choose (cho ⟨xs[i], List.getElem_mem h⟩)
      ⟨q.1, q.1, keep xs[i], fd (val xs[i]), q.2⟩ else ⟨[], [], false, .none, []⟩
  have hT' : ∀ i d, (xs.map td)[i]? = some d → TurnOk X scope (own.map (·.2)) tg elt ifs d ρ1 ρ1 (T i) := fun i d hd => by
    have hlt : i < xs.length := by
      by_cases z : i < xs.length
      · exact z
      · rw [List.getElem?_eq_none (by rw [List.length_map]; omega)] at hd; cases hd
    rw [List.getElem?_map, List.getElem?_eq_getElem hlt] at hd
    cases hd
    have sp := Classical.choose_spec (cho ⟨xs[i], List.getElem_mem hlt⟩)
    have eT : T i = ⟨(Classical.choose (cho ⟨xs[i], List.getElem_mem hlt⟩)).1, (Classical.choose (cho ⟨xs[i], List.getElem_mem hlt⟩)).1, keep xs[i], fd (val xs[i]), (Classical.choose (cho ⟨xs[i], List.getElem_mem hlt⟩)).2⟩ := dif_pos hlt
    rw [eT]
    obtain ⟨s1, s2, s3, s4, s5⟩ := sp
    refine ⟨s1, s2, s3, ?_⟩
    dsimp only
    split
    · exact s5
    · exact s4
  have h := lc_ok (its := xs.map td) (fun _ => ρ1) T hb hi (wipeE_le _ _) hsrc (fun _ _ => hok) (by rw [List.length_map]; exact hlen) hT'
  have eo : ∀ n, n ≤ xs.length → outs T n = (((xs.take n).filter keep).map val).map fd := by
    intro n
    induction n with
    | zero => intro _; simp [outs]
    | succ n ih =>
      intro hn
      have hlt : n < xs.length := by omega
      have eT : T n = ⟨(Classical.choose (cho ⟨xs[n], List.getElem_mem hlt⟩)).1, (Classical.choose (cho ⟨xs[n], List.getElem_mem hlt⟩)).1, keep xs[n], fd (val xs[n]), (Classical.choose (cho ⟨xs[n], List.getElem_mem hlt⟩)).2⟩ := dif_pos hlt
      unfold outs
      rw [eT, ih (by omega), take_succ_of (List.getElem?_eq_getElem hlt), List.filter_append]
      dsimp only
      by_cases q : keep xs[n] = true
      · rw [if_pos q, List.filter_cons_of_pos q, List.filter_nil, List.map_append, List.map_append]; rfl
      · rw [if_neg q, List.filter_cons_of_neg q, List.filter_nil, List.append_nil]
  rw [List.length_map, eo _ (Nat.le_refl _), List.take_length] at h
  exact h
/-! ### typed readings of the rest -/
theorem pd_lenM {src : Option Nat} (hm : X.mg ("len" : Str) = none) (h : PQ X a ρ src (ns.map f) ρ1) (ok : SrcOk ρ1 src (ns.map f)) (hg : Gl X "len" := by rfl) (he : starEach [a] X.env = (false, eval a X.env) :: starEach [] X.env := by rfl) : PD X (.Call (.Name "len" p) [a] [] pos) ρ (.int (ns.length : Int)) ρ1 := by
  have h' := pd_len (pos := pos) (p := p) hm h ok hg he
  rw [List.length_map] at h'
  exact h'
theorem td_truthM {src : Option Nat} (h : PQ X a ρ src (ns.map f) ρ1) (ok : SrcOk ρ1 src (ns.map f)) (he : ∀ whole, isTrue a X.env whole = (do let v ← whole; standAt a.pos; holding [v] (truthy v)) := by intro _; rfl) : TD X a ρ (!ns.isEmpty) ρ1 := by
  have h' := td_truthL h ok he
  rw [List.isEmpty_map] at h'
  exact h'
theorem id_range0 {n : Nat} (hm : X.mg "range" = none) (h : PD X a ρ (.int (n : Int)) ρ') (h2 : n < 2 ^ 62) (hg : Gl X "range" := by rfl) (hs : starEach [a] X.env = [(false, eval a X.env)] := by rfl) : ID X tg (.Call (.Name "range" p) [a] [] pos) ρ ((List.range n).map fun i : Nat => PyData.int (i : Int)) (fun _ => True) none ρ' := by
  have h' := id_range1 (tg := tg) (pos := pos) (p := p) hm h (by omega) (by omega) hg hs
  unfold rgD at h'
  simp only [Int.toNat_natCast, Int.zero_add] at h'
  exact h'
theorem id_rangeI {n : Int} (hm : X.mg "range" = none) (h : PD X a ρ (.int n) ρ') (h2 : n.toNat < 2 ^ 62) (h3 : -(2 ^ 62) ≤ n) (hg : Gl X "range" := by rfl) (hs : starEach [a] X.env = [(false, eval a X.env)] := by rfl) : ID X tg (.Call (.Name "range" p) [a] [] pos) ρ ((List.range n.toNat).map fun i : Nat => PyData.int (i : Int)) (fun _ => True) none ρ' := by
  have h' := id_range1 (tg := tg) (pos := pos) (p := p) hm h (by omega) (by omega) hg hs
  unfold rgD at h'
  simp only [Int.zero_add] at h'
  exact h'
/-- the turns of a comprehension that changes slots -/
def scanV (step : S → α → S) (keep : S → α → Bool) (val : S → α → β) : S → List α → List β
  | _, [] => []
  | s, a :: r => if keep s a = true then val s a :: scanV step keep val (step s a) r else scanV step keep val (step s a) r
theorem scanV_snoc (step : S → α → S) (keep : S → α → Bool) (val : S → α → β) : ∀ (r : List α) (s : S) (a : α), scanV step keep val s (r ++ [a]) = scanV step keep val s r ++ if keep (r.foldl step s) a = true then [val (r.foldl step s) a] else []
  | [], s, a => by
    show scanV step keep val s [a] = _
    unfold scanV
    show (if keep s a = true then val s a :: scanV step keep val (step s a) [] else scanV step keep val (step s a) []) = [] ++ _
    unfold scanV
    rfl
  | b :: r, s, a => by
    rw [List.cons_append]
    unfold scanV
    rw [scanV_snoc step keep val r (step s b) a, List.foldl_cons]
    split <;> rfl
theorem lcS (xs : List α) (td : α → PyData) (fd : β → PyData) (sh : S → En) (step : S → α → S) (keep : S → α → Bool) (val : S → α → β) (s0 : S) {scope : Scope} {own : List (Str × Nat)} {ifs : List Expr} {src : Option Nat} {ok : En → Prop} (hb : BlkOk X.N X.env.scope scope own) (hi : ID X tg iter ρ (xs.map td) ok src ρ1) (h0 : Le (wipeE (sh s0) (own.map (·.2))) ρ1) (hlen : xs.length < 100000) (hsrc : ∀ j, src = some j → j ∉ own.map (·.2)) (hok : ∀ s, ok (wipeE (sh s) (own.map (·.2))))
    (hT : ∀ i a s, xs[i]? = some a → s = (xs.take i).foldl step s0 → ∃ ρt ρm ρe, (∀ Y, IsBlk X scope Y → GV Y (own.map (·.2)) tg (td a) (wipeE (sh s) (own.map (·.2))) ρt) ∧ (∀ Y, IsBlk X scope Y → PTs Y ifs (tT X.K ρt (keep s a) ρm)) ∧ (∀ Y, IsBlk X scope Y → keep s a = true → PE Y elt (tP X.K ρm (fd (val s a)) ρe)) ∧ (keep s a = true → Le (wipeE (sh (step s a)) (own.map (·.2))) ρe) ∧ (keep s a = false → Le (wipeE (sh (step s a)) (own.map (·.2))) ρm)): LcOk X elt tg iter ifs scope ρ (.l ((scanV step keep val s0 xs).map fd)) (restE ρ1 (sh (xs.foldl step s0)) (own.map (·.2))) := by
  let st : Nat → S := fun i => (xs.take i).foldl step s0
  have cho : ∀ p : { p : Nat × α // xs[p.1]? = some p.2 }, ∃ q : En × En × En, (∀ Y, IsBlk X scope Y → GV Y (own.map (·.2)) tg (td p.1.2) (wipeE (sh (st p.1.1)) (own.map (·.2))) q.1) ∧ (∀ Y, IsBlk X scope Y → PTs Y ifs (tT X.K q.1 (keep (st p.1.1) p.1.2) q.2.1)) ∧ (∀ Y, IsBlk X scope Y → keep (st p.1.1) p.1.2 = true → PE Y elt (tP X.K q.2.1 (fd (val (st p.1.1) p.1.2)) q.2.2)) ∧ (keep (st p.1.1) p.1.2 = true → Le (wipeE (sh (step (st p.1.1) p.1.2)) (own.map (·.2))) q.2.2) ∧ (keep (st p.1.1) p.1.2 = false → Le (wipeE (sh (step (st p.1.1) p.1.2)) (own.map (·.2))) q.2.1) := fun p => by
    obtain ⟨ρt, ρm, ρe, h⟩ := hT p.1.1 p.1.2 _ p.2 rfl
    exact ⟨(ρt, ρm, ρe), h⟩
  let T : Nat → Turn := fun i => if h : i < xs.length then
      let q := Classical.choose (cho ⟨(i, xs[i]), List.getElem?_eq_getElem h⟩)
      ⟨q.1, q.2.1, keep (st i) xs[i], fd (val (st i) xs[i]), q.2.2⟩ else ⟨[], [], false, .none, []⟩
  have eT : ∀ i (h : i < xs.length), T i = ⟨(Classical.choose (cho ⟨(i, xs[i]), List.getElem?_eq_getElem h⟩)).1, (Classical.choose (cho ⟨(i, xs[i]), List.getElem?_eq_getElem h⟩)).2.1, keep (st i) xs[i], fd (val (st i) xs[i]), (Classical.choose (cho ⟨(i, xs[i]), List.getElem?_eq_getElem h⟩)).2.2⟩ := fun i h => dif_pos h
  have sN : ∀ i (h : i < xs.length), st (i + 1) = step (st i) xs[i] := fun i h => by
    show (xs.take (i + 1)).foldl step s0 = _
    rw [take_succ_of (List.getElem?_eq_getElem h), List.foldl_append]; rfl
  have hT' : ∀ i d, (xs.map td)[i]? = some d → TurnOk X scope (own.map (·.2)) tg elt ifs d (sh (st i)) (sh (st (i + 1))) (T i) := fun i d hd => by
    have hlt : i < xs.length := by
      by_cases z : i < xs.length
      · exact z
      · rw [List.getElem?_eq_none (by rw [List.length_map]; omega)] at hd; cases hd
    rw [List.getElem?_map, List.getElem?_eq_getElem hlt] at hd
    cases hd
    have sp := Classical.choose_spec (cho ⟨(i, xs[i]), List.getElem?_eq_getElem hlt⟩)
    rw [eT i hlt]
    obtain ⟨s1, s2, s3, s4, s5⟩ := sp
    refine ⟨s1, s2, s3, ?_⟩
    dsimp only
    rw [sN i hlt]
    split
    · rename_i q; exact s4 q
    · rename_i q; exact s5 (by simpa using q)
  have h := lc_ok (its := xs.map td) (fun i => sh (st i)) T hb hi h0 hsrc (fun _ _ => hok _) (by rw [List.length_map]; exact hlen) hT'
  have eo : ∀ n, n ≤ xs.length → outs T n = (scanV step keep val s0 (xs.take n)).map fd := by
    intro n
    induction n with
    | zero => intro _; rfl
    | succ n ih =>
      intro hn
      have hlt : n < xs.length := by omega
      unfold outs
      rw [eT n hlt, ih (by omega), take_succ_of (List.getElem?_eq_getElem hlt), scanV_snoc, List.map_append]
      dsimp only
      by_cases q : keep (st n) xs[n] = true
      · rw [if_pos q, if_pos q]; rfl
      · rw [if_neg q, if_neg q]; simp
  rw [List.length_map, eo _ (Nat.le_refl _), List.take_length] at h
  have e2 : st xs.length = xs.foldl step s0 := by
    show (xs.take xs.length).foldl step s0 = _
    rw [List.take_length]
  rw [e2] at h
  exact h
theorem bd_env (h : ρ = ρ') (hb : BD X W body ρ' D) : BD X W body ρ D := h ▸ hb
/-! ### a name that owns its list: read -/
theorem srcO {j : Nat} {q : Option Addr} {xs : List PyData} (h : ρ[j]? = some (.o q (.l xs))) : SrcOk ρ (some j) xs := ⟨q, h⟩
theorem pd_ixO {o : Str} {p1 : Pos} {pa pb : Option Addr} {xs : List PyData} (j : Nat) (h0 : ρ[j]? = some (.o pa (.l xs))) (hb : PD X b ρ (.int i) ρ2) (h1 : ρ2[j]? = some (.o pb (.l xs))) (h : atI xs i = some x) (hs : PlainIx b := by intro _ _; rfl)
    (hN : X.N[j]? = some o := by rfl) (hv : Vis X.env.scope o := by first | exact Or.inl rfl | exact Or.inr (Or.inl rfl) | exact Or.inr (Or.inr rfl)) (hd : (o == ("__debug__" : Str)) = false := by decide) (hcd : (o == ("__classdict__" : Str)) = false := by decide) :
    PD X (.Subscript (.Name o p1) b pos) ρ x ρ2 := pd_ixL h (srcO h1) (pq_o j h0 hN hv hd hcd) hb hs
theorem pd_gixO [Inhabited α] {o : Str} {p1 : Pos} {pa pb : Option Addr} (j : Nat) (h0 : ρ[j]? = some (.o pa (.l (ns.map f)))) (hb : PD X b ρ (.int i) ρ2) (h1 : ρ2[j]? = some (.o pb (.l (ns.map f)))) (h : -(ns.length : Int) ≤ i ∧ i < ns.length) (hs : PlainIx b := by intro _ _; rfl)
    (hN : X.N[j]? = some o := by rfl) (hv : Vis X.env.scope o := by first | exact Or.inl rfl | exact Or.inr (Or.inl rfl) | exact Or.inr (Or.inr rfl)) (hd : (o == ("__debug__" : Str)) = false := by decide) (hcd : (o == ("__classdict__" : Str)) = false := by decide) :
    PD X (.Subscript (.Name o p1) b pos) ρ (f (gI ns i)) ρ2 := pd_ixL (gI_at h) (srcO h1) (pq_o j h0 hN hv hd hcd) hb hs
theorem pd_lenO {o : Str} {p1 : Pos} {pa : Option Addr} (j : Nat) (hm : X.mg ("len" : Str) = none) (h0 : ρ[j]? = some (.o pa (.l (ns.map f)))) (hg : Gl X "len" := by rfl) (he : starEach [.Name o p1] X.env = (false, eval (.Name o p1) X.env) :: starEach [] X.env := by rfl)
    (hN : X.N[j]? = some o := by rfl) (hv : Vis X.env.scope o := by first | exact Or.inl rfl | exact Or.inr (Or.inl rfl) | exact Or.inr (Or.inr rfl)) (hd : (o == ("__debug__" : Str)) = false := by decide) (hcd : (o == ("__classdict__" : Str)) = false := by decide) :
    PD X (.Call (.Name "len" p) [.Name o p1] [] pos) ρ (.int (ns.length : Int)) ρ := pd_lenM hm (pq_o j h0 hN hv hd hcd) (srcO h0) hg he
theorem td_truthO {o : Str} {p1 : Pos} {pa : Option Addr} (j : Nat) (h0 : ρ[j]? = some (.o pa (.l (ns.map f)))) (he : ∀ whole, isTrue (.Name o p1) X.env whole = (do let v ← whole; standAt (Expr.Name o p1).pos; holding [v] (truthy v)) := by intro _; rfl)
    (hN : X.N[j]? = some o := by rfl) (hv : Vis X.env.scope o := by first | exact Or.inl rfl | exact Or.inr (Or.inl rfl) | exact Or.inr (Or.inr rfl)) (hd : (o == ("__debug__" : Str)) = false := by decide) (hcd : (o == ("__classdict__" : Str)) = false := by decide) :
    TD X (.Name o p1) ρ (!ns.isEmpty) ρ := td_truthM (pq_o j h0 hN hv hd hcd) (srcO h0) he
/-! ### of lists that are data -/
theorem srcN {xs : List PyData} : SrcOk ρ none xs := trivial
theorem pd_gixD [Inhabited α] (h : -(ns.length : Int) ≤ i ∧ i < ns.length) (ha : PD X a ρ (.list (ns.map f)) ρ1) (hb : PD X b ρ1 (.int i) ρ2) (hs : PlainIx b := by intro _ _; rfl) : PD X (.Subscript a b pos) ρ (f (gI ns i)) ρ2 := pd_ixL (gI_at h) (srcN) (pq_d ha) hb hs
theorem pd_lenD (hm : X.mg ("len" : Str) = none) (h : PD X a ρ (.list (ns.map f)) ρ1) (hg : Gl X "len" := by rfl) (he : starEach [a] X.env = (false, eval a X.env) :: starEach [] X.env := by rfl) : PD X (.Call (.Name "len" p) [a] [] pos) ρ (.int (ns.length : Int)) ρ1 := pd_lenM hm (pq_d h) (srcN) hg he
theorem td_truthD (h : PD X a ρ (.list (ns.map f)) ρ1) (he : ∀ whole, isTrue a X.env whole = (do let v ← whole; standAt a.pos; holding [v] (truthy v)) := by intro _; rfl) : TD X a ρ (!ns.isEmpty) ρ1 := td_truthM (pq_d h) (srcN) he
theorem pd_sumD {ns : List Int} (hc : X.calm = true) (hm : X.mg ("sum" : Str) = none) (h : PD X a ρ (.list (ns.map .int)) ρ1) (hg : Gl X "sum" := by rfl) (he : starEach [a] X.env = (false, eval a X.env) :: starEach [] X.env := by rfl) : PD X (.Call (.Name "sum" p) [a] [] pos) ρ (.int ns.sum) ρ1 := pd_sum hc hm (pq_d h) (srcN) hg he
theorem pd_maxD {ns : List Int} (hc : X.calm = true) (hm : X.mg ("max" : Str) = none) (hn : 0 < ns.length) (h : PD X a ρ (.list (ns.map .int)) ρ1) (hg : Gl X "max" := by rfl) (he : starEach [a] X.env = (false, eval a X.env) :: starEach [] X.env := by rfl) : PD X (.Call (.Name "max" p) [a] [] pos) ρ (.int (lmax ns)) ρ1 := pd_maxL hc hm hn (pq_d h) (srcN) hg he
theorem pd_minD {ns : List Int} (hc : X.calm = true) (hm : X.mg ("min" : Str) = none) (hn : 0 < ns.length) (h : PD X a ρ (.list (ns.map .int)) ρ1) (hg : Gl X "min" := by rfl) (he : starEach [a] X.env = (false, eval a X.env) :: starEach [] X.env := by rfl) : PD X (.Call (.Name "min" p) [a] [] pos) ρ (.int (lmin ns)) ρ1 := pd_minL hc hm hn (pq_d h) (srcN) hg he
theorem pd_listD (hm : X.mg ("list" : Str) = none) (h : PD X a ρ (.list (ns.map f)) ρ1) (hg : Gl X "list" := by rfl) (he : starEach [a] X.env = (false, eval a X.env) :: starEach [] X.env := by rfl) : PN X (.Call (.Name "list" p) [a] [] pos) ρ (.l (ns.map f)) ρ1 := pn_list hm (pq_d h) (srcN) hg he
theorem pn_catD (ha : PD X a ρ (.list (ns.map f)) ρ1) (hb : PD X b ρ1 (.list (ms.map f)) ρ2) (hl : ns.length + ms.length ≤ 100000) : PN X (.BinOp a .Add b pos) ρ (.l ((ns ++ ms).map f)) ρ2 := pn_catM (pq_d ha) (srcN) (pq_d hb) (srcN) hl
theorem pn_sliceD {lo hi : Option Expr} {ol oh : Option Int} {p2 : Pos} (h : PD X e ρ (.list (ns.map f)) ρ1) (hl : OD X lo ρ1 ol ρ2) (hh : OD X hi ρ2 oh ρ3) : PN X (.Subscript e (.Slice lo hi none p2) pos) ρ (.l ((cutG ns ol oh).map f)) ρ3 := pn_sliceM (pq_d h) hl hh (srcN)
theorem id_listD (h : PD X e ρ (.list (ns.map f)) ρ') : ID X tg e ρ (ns.map f) (fun r => SrcOk r none (ns.map f)) none ρ' := id_list (pq_d h) (srcN)
/-- without an if -/
theorem lcN (xs : List α) (td : α → PyData) (fd : β → PyData) (val : α → β) {scope : Scope} {own : List (Str × Nat)} {src : Option Nat} {ok : En → Prop} (hb : BlkOk X.N X.env.scope scope own) (hi : ID X tg iter ρ (xs.map td) ok src ρ1) (hlen : xs.length < 100000) (hsrc : ∀ j, src = some j → j ∉ own.map (·.2)) (hok : ok (wipeE ρ1 (own.map (·.2))))
    (hT : ∀ a, a ∈ xs → ∃ ρt ρe, (∀ Y, IsBlk X scope Y → GV Y (own.map (·.2)) tg (td a) (wipeE ρ1 (own.map (·.2))) ρt) ∧ (∀ Y, IsBlk X scope Y → PE Y elt (tP X.K ρt (fd (val a)) ρe)) ∧ Le (wipeE ρ1 (own.map (·.2))) ρt ∧ Le (wipeE ρ1 (own.map (·.2))) ρe): LcOk X elt tg iter [] scope ρ (.l ((xs.map val).map fd)) (restE ρ1 ρ1 (own.map (·.2))) := by
  have h := lcM (ifs := []) xs td fd (fun _ => true) val hb hi hlen hsrc hok (fun a ha => by
    obtain ⟨ρt, ρe, h1, h2, h3, h4⟩ := hT a ha
    exact ⟨ρt, ρe, h1, fun Y hY => tsd_nil_of hY, fun Y hY _ => h2 Y hY, h3, h4⟩)
  rw [List.filter_eq_self.mpr (fun _ _ => rfl)] at h
  exact h
/-- xs[i] = v -/
def setI (xs : List α) (i : Int) (v : α) : List α := if i < 0 then xs.set (i + xs.length).toNat v else xs.set i.toNat v
theorem setI_len (xs : List α) (i : Int) (v : α) : (setI xs i v).length = xs.length := by
  unfold setI
  split <;> rw [List.length_set]
theorem ne_len {xs : List α} (h : (!xs.isEmpty) = true) : 0 < xs.length := by
  cases xs with
  | nil => cases h
  | cons x r => exact Nat.succ_pos _
theorem sd_setixM {o : Str} {p1 p2 : Pos} {pa pb : Option Addr} {ys : List PyData} {ix : Int} {v : α} (j : Nat) (he : PD X e ρ (f v) ρ1) (h0 : ρ1[j]? = some (.o pa (.l ys))) (hix : PD X a ρ1 (.int ix) ρ2) (h1 : ρ2[j]? = some (.o pb (.l (ns.map f)))) (hn : -(ns.length : Int) ≤ ix ∧ ix < ns.length) (h : D.nx (ρ2.set j (.o pb (.l ((setI ns ix v).map f)))))
    (hN : X.N[j]? = some o := by rfl) (hv : Vis X.env.scope o := by first | exact Or.inl rfl | exact Or.inr (Or.inl rfl) | exact Or.inr (Or.inr rfl)) (hd : (o == ("__debug__" : Str)) = false := by decide) (hcd : (o == ("__classdict__" : Str)) = false := by decide)
    (hg : ∀ v, assign (.Subscript (.Name o p1) a p2) X.env v = (do
      let ov ← holding [v] (eval (.Name o p1) X.env)
      let iv ← holding [v, ov] (eval a X.env)
      standAt p2
      holding [v, ov, iv] (setItem ov iv v)
      release [v, ov, iv] []) := by intro _; rfl)
    (hs : swapsWithSole [.Subscript (.Name o p1) a p2] e pos.line X.env = pure false := by rfl) (hw : swappedStores [.Subscript (.Name o p1) a p2] e X.env = pure none := by rfl)
    (hm : (assignEach [.Subscript (.Name o p1) a p2] X.env).map (·.2) = [assign (.Subscript (.Name o p1) a p2) X.env] := by rfl) :
    SD X W (.Assign [.Subscript (.Name o p1) a p2] e pos) ρ D := by
  unfold setI at h
  by_cases q : ix < 0
  · rw [if_pos q, List.map_set] at h
    refine sd_setix (n := (ix + ns.length).toNat) j he h0 hix h1 ?_ h hN hv hd hcd hg hs hw hm
    unfold ixN
    rw [List.length_map, if_neg (by omega), if_pos (by omega)]
  · rw [if_neg q, List.map_set] at h
    refine sd_setix (n := ix.toNat) j he h0 hix h1 ?_ h hN hv hd hcd hg hs hw hm
    unfold ixN
    rw [List.length_map, if_pos (by omega), if_pos (by omega)]
/-- a, b, .. = a list -/
theorem gd_lst {kk : Nat} {xs : List PyData} (hc : X.calm = true) (h : GsD X es xs ρ ρ') (hn : (assignEach es X.env).length = xs.length := by rfl) (hst : (assignEach es X.env).findIdx? (·.1) = none := by rfl) : GD X (.Tuple es kk pos) (.list xs) ρ ρ' := PG_imp (pg_lst hc h hn hst) fun v σ H Q ⟨C, F, se, r, q⟩ => by
  cases r with
  | lst h1 h2 => exact ⟨_, _, rfl, se.fr.ext.l h1, h2.length, C, F, se, h2, q⟩
theorem isN_dO (o : Option α) (h : ∀ a, isNone (f a) = false) : isNone (dO f o) = o.isNone := by
  cases o with
  | none => rfl
  | some a => exact h a
theorem notN_dO (o : Option α) (h : ∀ a, isNone (f a) = false) : (!isNone (dO f o)) = !o.isNone := by rw [isN_dO o h]
theorem id_rangeM {m n : Int} (hm : X.mg "range" = none) (ha : PD X a ρ (.int m) ρ1) (hb : PD X b ρ1 (.int n) ρ') (h1 : -(2 ^ 62) ≤ m) (h2 : m < 2 ^ 62) (h3 : -(2 ^ 62) ≤ n) (h4 : n < 2 ^ 62) (hg : Gl X "range" := by rfl)
    (hs : starEach [a, b] X.env = [(false, eval a X.env), (false, eval b X.env)] := by rfl) (hs2 : starEach [b] X.env = [(false, eval b X.env)] := by rfl) : ID X tg (.Call (.Name "range" p) [a, b] [] pos) ρ ((List.range (n - m).toNat).map fun i : Nat => PyData.int (m + (i : Int))) (fun _ => True) none ρ' :=
  id_range2 hm ha hb h1 h2 h3 h4 hg hs hs2
theorem pd_allD {bs : List Bool} (hc : X.calm = true) (hm : X.mg ("all" : Str) = none) (h : PD X a ρ (.list (bs.map .bool)) ρ1) (hg : Gl X "all" := by rfl) (he : starEach [a] X.env = (false, eval a X.env) :: starEach [] X.env := by rfl) : PD X (.Call (.Name "all" p) [a] [] pos) ρ (.bool (bs.all fun b => b)) ρ1 := pd_all hc hm (pq_d h) srcN hg he
theorem pd_anyD {bs : List Bool} (hc : X.calm = true) (hm : X.mg ("any" : Str) = none) (h : PD X a ρ (.list (bs.map .bool)) ρ1) (hg : Gl X "any" := by rfl) (he : starEach [a] X.env = (false, eval a X.env) :: starEach [] X.env := by rfl) : PD X (.Call (.Name "any" p) [a] [] pos) ρ (.bool (bs.any fun b => b)) ρ1 := pd_any hc hm (pq_d h) srcN hg he
end
end G

/-! GPool: what the laws drawP from. -/
namespace G
open PySem PySem.Spec PyProof.Rows L2
structure Pool where
  l : List Int
  a : Int
  b : Int
  c : Int
  d : Int
def pl (p : Pool) : List PyData := [.list (p.l.map .int), .int p.a, .int p.b, .int p.c, .int p.d]
def drawEnd (p : Pool) (n : Int) : Int × Pool :=
  let m := (p.c * 48271 + (p.d + 1) * 69621 + 7919) % 2147483647
  (((m * m + (p.d + 1) * 40692) % 2147483399) % n, { p with d := p.d + 1 })
def drawP (p : Pool) (n : Int) : Int × Pool :=
  if p.b > 0 then (p.b % n, { p with b := p.b / n })
  else if decide (p.d % 8 = 0) && decide (p.a < p.l.length) then
    let cell : Int := (gI p.l p.a).natAbs
    if cell ≥ 10 ^ 18 then (cell % n, { p with a := p.a + 1, b := cell / n })
    else drawEnd { p with a := p.a + 1, c := cell } n
  else drawEnd p n
theorem drawEnd_bd (p : Pool) {n : Int} (h : 0 < n) : 0 ≤ (drawEnd p n).1 ∧ (drawEnd p n).1 < n := ⟨Int.emod_nonneg _ (by omega), Int.emod_lt_of_pos _ h⟩
theorem draw_bd (p : Pool) {n : Int} (h : 0 < n) : 0 ≤ (drawP p n).1 ∧ (drawP p n).1 < n := by
  unfold drawP
  split
  · exact ⟨Int.emod_nonneg _ (by omega), Int.emod_lt_of_pos _ h⟩
  · split
    · dsimp only
      split
      · exact ⟨Int.emod_nonneg _ (by omega), Int.emod_lt_of_pos _ h⟩
      · exact drawEnd_bd _ h
    · exact drawEnd_bd _ h
theorem draw_a (p : Pool) (n : Int) (h : 0 ≤ p.a) : 0 ≤ (drawP p n).2.a := by
  unfold drawP
  split
  · exact h
  · split
    · dsimp only
      split
      · show 0 ≤ p.a + 1; omega
      · show 0 ≤ p.a + 1; omega
    · exact h
/-- an int drawn -/
def SDraw (xs ds : List PyData) (y : PyData) (xs' : List PyData) : Prop := ∃ (p : Pool) (n : Int) (r : Int × Pool), xs = pl p ∧ ds = [.int n] ∧ (0 < n ∧ n < 1073741824 ∧ 0 ≤ p.a) ∧ r = drawP p n ∧ y = .int r.1 ∧ xs' = pl r.2
end G
namespace G
open PySem PySem.Spec PyProof.Rows L2
/-- data without dicts, no deeper than that -/
inductive Nice : Nat → PyData → Prop
  | non {d : Nat} : Nice d .none
  | bl {d : Nat} (b : Bool) : Nice d (.bool b)
  | int {d : Nat} (i : Int) : Nice d (.int i)
  | str {d : Nat} (t : Str) : Nice d (.str t)
  | lst {d : Nat} {xs : List PyData} : xs.length < 100000 → (∀ x ∈ xs, Nice d x) → Nice (d + 1) (.list xs)
  | tup {d : Nat} {xs : List PyData} : xs.length < 100000 → (∀ x ∈ xs, Nice d x) → Nice (d + 1) (.tuple xs)
/-- _law_same of two alike -/
def SSame (d : Nat) (ds : List PyData) (r : Res) : Prop := ∃ x, ds = [x, x] ∧ Nice d x ∧ r = .ret (.bool true)
section
variable {X : Cx} {W : WX} {ρ : En} {st : Stmt} {rest : List Stmt} {D : DE}
/-- a statement that never falls through -/
theorem bd_guard_end (h : SD X W st ρ { D with nx := fun _ => False }) : BD X W (st :: rest) ρ D := bd_cut (fun _ => False) h fun _ z => z.elim
end
end G

/-! GExc: exceptions in words of data. -/
namespace G
open PySem PySem.Spec PyProof.Rows L2

section
variable {X : Cx} {W : WX} {e a b c o : Expr} {es : List Expr} {p pos pos' np : Pos} {ρ ρ' ρ1 ρ2 ρ3 : En} {x y z : PyData} {xs ys : List PyData} {st : Stmt} {rest A B body suite : List Stmt} {D : DE} {cls : Value} {fs : List (Str × PyData)} {w n : Str} {k : Bool} {C : Addr}
/-! ### an expression that raises, and what stands around it -/
theorem sd_exprX (he : PX X W e ρ cls fs ρ1) (h : D.ex cls fs ρ1) (hs : swapsWith e none pos.line X.env = pure false := by rfl) : SD X W (.Expr e pos) ρ D := PS_imp (ps_expr he hs) fun E σ H ⟨C, F, se, cv⟩ => ⟨C, F, se, fun d F' H' _ e' r => cv.ex cls fs ρ1 d F' H' σ h e' r⟩
theorem sd_setX (i : Nat) (he : PX X W e ρ cls fs ρ1) (h : D.ex cls fs ρ1) (hN : X.N.Nodup) (hi : X.N[i]? = some w := by rfl) (hx : Loc X.env.scope w := by first | exact Or.inl rfl | exact Or.inr rfl)
    (hf : X.fn w = true ∨ X.env.scope.names.lookup w = some .local := by first | exact .inl rfl | exact .inr rfl) (hs : swapsWith e (some (.Name w pos')) pos.line X.env = pure false := by rfl) : SD X W (.Assign [.Name w pos'] e pos) ρ D :=
  PS_imp (ps_set hN hi hx he hs hf) fun E σ H ⟨C, F, se, cv⟩ => ⟨C, F, se, fun d F' H' _ e' r => cv.ex cls fs ρ1 d F' H' σ h e' r⟩
theorem sd_retX (he : PX X W e ρ cls fs ρ1) (h : D.ex cls fs ρ1) : SD X W (.Return (some e) pos) ρ D := PS_imp (ps_ret he) fun E σ H ⟨C, F, se, cv⟩ => ⟨C, F, se, fun d F' H' _ e' r => cv.ex cls fs ρ1 d F' H' σ h e' r⟩
/-- a test that raises -/
def tXT (K : PySem.W.Frag) (W : WX) (ρ : En) (cls : Value) (fs : List (Str × PyData)) (ρ' : En) : TT := fun σ H _ => ∃ C F, SE K C F H σ ρ ∧ ∀ d F' H', Ex F F' → SE K C F' H' σ ρ' → ExRep K F' H' d fs → W cls d σ H'
abbrev TX (X : Cx) (W : WX) (e : Expr) (ρ : En) (cls : Value) (fs : List (Str × PyData)) (ρ' : En) : Prop := PT X e (tXT X.K W ρ cls fs ρ')
theorem tx_val (h : PX X W e ρ cls fs ρ1) (he : ∀ whole, isTrue e X.env whole = (do let v ← whole; standAt e.pos; holding [v] (truthy v)) := by intro _; rfl) : TX X W e ρ cls fs ρ1 := PT_imp (pt_val h he) fun σ H Q q => q
theorem tx_not (h : TX X W e ρ cls fs ρ1) : TX X W (.UnaryOp .Not e pos) ρ cls fs ρ1 := PT_imp (pt_not h) fun σ H Q q => q
theorem px_cmpL {op : CmpOp} {r : R2} (ho : OpR X (compareOp op) r) (ha : PX X W a ρ cls fs ρ1) (hm : behindInMarks op b = false) : PX X W (.Compare a [op] [b] pos) ρ cls fs ρ1 :=
  PE_imp (pe_cmpR ho ha (⟨fun _ _ _ _ _ _ h => h.elim⟩ : PE X b (fun _ _ _ => False)) hm) fun σ H Q q => q
theorem tx_cmpL {op : CmpOp} {r : R2} (ho : OpR X (compareOp op) r) (ha : PX X W a ρ cls fs ρ1) (hm : behindInMarks op b = false) : TX X W (.Compare a [op] [b] pos) ρ cls fs ρ1 :=
  PT_imp (pt_cmpR ho ha (⟨fun _ _ _ _ _ _ h => h.elim⟩ : PE X b (fun _ _ _ => False)) hm) fun σ H Q q => q
theorem px_opL {op : Operator} {r : R2} (ho : OpR X (binaryOp op) r) (ha : PX X W a ρ cls fs ρ1) : PX X W (.BinOp a op b pos) ρ cls fs ρ1 :=
  PE_imp (pe_op ho ha (⟨fun _ _ _ _ _ _ h => h.elim⟩ : PE X b (fun _ _ _ => False))) fun σ H Q q => q
theorem px_opR {op : Operator} {r : R2} (ho : OpR X (binaryOp op) r) (ha : PD X a ρ x ρ1) (hb : PX X W b ρ1 cls fs ρ2) : PX X W (.BinOp a op b pos) ρ cls fs ρ2 :=
  PE_imp (pe_op ho ha hb) fun σ H Q ⟨C, F, se, q⟩ => ⟨C, F, se, fun v F1 H1 x1 e1 r1 => ⟨C, F1, e1, fun d F2 H2 x2 e2 r2 => q d F2 H2 (x1.trans x2) e2 r2⟩⟩
theorem px_neg (ha : PX X W a ρ cls fs ρ1) : PX X W (.UnaryOp .USub a pos) ρ cls fs ρ1 := PE_imp (pe_un un_neg ha) fun σ H Q q => q
theorem sd_ifX (hc : TX X W c ρ cls fs ρ1) (h : D.ex cls fs ρ1) : SD X W (.If c A B pos) ρ D := by
  have nv : ∀ sts, PSs X sts (fun _ _ _ => False) := fun sts => ⟨fun _ _ _ _ _ _ h => h.elim⟩
  exact PS_imp (ps_if hc (nv A) (nv B)) fun E σ H ⟨C, F, se, cv⟩ => ⟨C, F, se, fun d F' H' _ e' r => cv.ex cls fs ρ1 d F' H' σ h e' r⟩
/-- arguments, one of which raises -/
def tXA (K : PySem.W.Frag) (W : WX) (ρ : En) (cls : Value) (fs : List (Str × PyData)) (ρ' : En) : TA := fun σ H _ => ∃ C F, SE K C F H σ ρ ∧ ∀ d F' H', Ex F F' → SE K C F' H' σ ρ' → ExRep K F' H' d fs → W cls d σ H'
abbrev AX (X : Cx) (W : WX) (es : List Expr) (ρ : En) (cls : Value) (fs : List (Str × PyData)) (ρ' : En) : Prop := PA X es (tXA X.K W ρ cls fs ρ')
theorem PA_any {t : TA} (es : List Expr) : PA X es (fun _ _ _ => False) := ⟨fun _ _ _ _ _ _ _ h => h.elim⟩
theorem ax_head (h : PX X W e ρ cls fs ρ1) (hs : starEach (e :: es) X.env = (false, eval e X.env) :: starEach es X.env := by rfl) : AX X W (e :: es) ρ cls fs ρ1 := PA_imp (pa_cons h (PA_any (t := tNil) es) hs) fun σ H Q q => q
theorem ax_tail (h : PD X e ρ x ρ1) (hr : AX X W es ρ1 cls fs ρ2) (hs : starEach (e :: es) X.env = (false, eval e X.env) :: starEach es X.env := by rfl) : AX X W (e :: es) ρ cls fs ρ2 := PA_imp (pa_cons h hr hs) fun σ H Q ⟨C, F, se, q⟩ =>
  ⟨C, F, se, fun v F1 H1 x1 e1 r1 => ⟨C, F1, e1, fun d F2 H2 x2 e2 r2 => q d F2 H2 (x1.trans x2) e2 r2⟩⟩
theorem px_callA {j k : Nat} {sp : Sp} {dvs : List V} {f : Str} (cl : Cal X.prog X.w X.K X.mg X.base j f sp dvs) (hr : Room k X.A) (ha : AX X W (e :: es) ρ cls fs ρ1) (hk : j ≤ k := by decide) (hg : Gl X f := by rfl)
    (hdb : (f == ("__debug__" : Str)) = false := by decide) (he : starEach (e :: es) X.env = (false, eval e X.env) :: starEach es X.env := by rfl) (hpl : (backTo pos (starEach es X.env)).any (·.1) = false := by rfl) : PX X W (.Call (.Name f p) (e :: es) [] pos) ρ cls fs ρ1 := by
  obtain ⟨f, fd, ps, dd, fn, hm, kp, bi, vv⟩ := cl.ex
  exact PE_imp (pe_callSD fn (hr.mono hk) hg hm kp bi vv (fun σ => passE0 σ) ha hdb he hpl) fun σ H Q q => q

/-! ### raise -/
/-- an exception class of the text -/
structure XC (K : PySem.W.Frag) (mg : Str → Option Value) (x : Str) : Prop where
  ex : PySem.W.excIn K (He.ga K x) He.veBase "ValueError.__new__" = true
  kp : PySem.W.keepIn K (.ref (He.ga K x)) = true
  sb : PySem.W.subIn K (.ref (He.ga K x)) (.type "BaseException") = some true
  ty : PySem.W.typeIn K (.ref (He.ga K x)) = some (.type "type")
  mg : mg x = some (.ref (He.ga K x))
theorem sd_raise1 (hc : X.calm = true) (tk : Takes X W) (xc : XC X.K X.mg w) (he : PD X e ρ x ρ1) (h : D.ex (.ref (He.ga X.K w)) [] ρ1) (hg : Gl X w := by rfl) (hs : starEach [e] X.env = (false, eval e X.env) :: starEach [] X.env := by rfl) (hdb : (w == ("__debug__" : Str)) = false := by decide) :
    SD X W (.Raise (some (.Call (.Name w p) [e] [] pos')) none pos) ρ D :=
  PS_imp (ps_raise hc tk (SkE.pmk_own1 PySem.F.excBase_ValueError xc.ex xc.mg xc.kp (raises_own xc.sb xc.ty) hg he hs hdb)) fun E σ H ⟨C, F, se, cv⟩ => ⟨C, F, se, fun v F1 H1 _ e1 r1 => cv.ex _ [] ρ1 none F1 H1 σ h e1 rfl⟩
/-- str(i) -/
theorem pd_strI {i : Int} (hz : i.natAbs.log2 < 1920) (hm : X.mg ("str" : Str) = none) (ha : PD X a ρ (.int i) ρ1) (hg : Gl X "str" := by rfl) (he : starEach [a] X.env = (false, eval a X.env) :: starEach [] X.env := by rfl) : PD X (.Call (.Name "str" p) [a] [] pos) ρ (.str (toString i : Str)) ρ1 :=
  pd_ty call_str_int (fun F H vs Q e r q => by
    obtain ⟨v, rfl, h⟩ := rpa_one r
    rw [rp_int h]
    exact ⟨i, rfl, hz, q _ F H (.refl e) (.str _)⟩) (ad_one ha he) hm rfl hg (by decide) (by decide) he

/-! ### try: body, except x as n: suite -/
theorem SE.unset {K : PySem.W.Frag} {C : Cn} {F H : Hp} {σ : L2.St} {ρ : En} (e : SE K C F H σ ρ) (i : Nat) : SE K C F H (σ.set i none) (ρ.set i .un) := by
  have h := e.setU (i := i) (v := V.non)
  refine h.sub (by rw [List.length_set, List.length_set]) fun j s hj hn => ?_
  by_cases q : j = i
  · subst q
    exact absurd (set_at hj).1.symm hn
  · rw [List.getElem?_set_ne (Ne.symm q), List.getElem?_set_ne (Ne.symm q)]
theorem SE.setV {K : PySem.W.Frag} {C : Cn} {F H : Hp} {σ : L2.St} {ρ : En} (e : SE K C F H σ ρ) (i : Nat) (v : V) : SE K C F H (σ.set i (some v)) (ρ.set i (.v v)) := e.set rfl fun z => nomatch z
abbrev W0 : WX := fun _ _ _ _ => False
/-- what a handler leaves: its name's slot is free again -/
def hdD (D : DE) (i : Nat) : DE := { nx := fun r => D.nx (r.set i .un), rt := D.rt, bk := fun r => D.bk (r.set i .un), ct := fun r => D.ct (r.set i .un), rn := D.rn }
theorem sd_try_as (i : Nat) {c : Value} {b₀ : Stmt} (M : Value → List (Str × PyData) → En → Prop) (hs : X.stack = X.env :: X.outer) (hf : X.env.frame = some X.env.locals) (hN : X.N.Nodup) (hc : Names X w c) (tk : Takes X W)
    (hb : ∀ (W : WX) (pn : List (Addr × Obj)) (xe : Value → Shared → Prop), Takes (X.tr pn xe) W → PassesOwn (model X.prog X.w) X.A X.env xe → BD (X.tr pn xe) W body ρ { D with ex := M })
    (hh : ∀ cls fs ρ', M cls fs ρ' → ∃ b, PySem.W.exmOne X.K cls c = some b ∧ (b = true → ∀ (a : Addr) (oe : Obj) (d : Option Addr) (pn : List (Addr × Obj)), Zc cls d oe → (∃ vs, oe.data = .fields vs) → (fs = [] → d = none) → BD (X.suite a ((a, oe) :: pn)) W0 (b₀ :: suite) (ρ'.set i (.v (.ref a))) (hdD D i)) ∧ (b = false → D.ex cls fs ρ'))
    (hM : ∀ cls fs ρ', M cls fs ρ' → fs = []) (hi : X.N[i]? = some n := by rfl) (hln : X.env.kindOf n = some .local := by rfl) :
    SD X W (.Try body [.ExceptHandler (some (.Name w np)) (some n) (b₀ :: suite) pos'] [] [] pos) ρ D := by
  have hsu : ∀ (a : Addr) (oe : Obj) (cls : Value) (d : Option Addr) (pn : List (Addr × Obj)), Zc cls d oe → (∃ vs, oe.data = .fields vs) → PSs (X.suite a ((a, oe) :: pn)) (b₀ :: suite)
      (fun E σ H => ∃ q : { q : List (Str × PyData) × En // M cls q.1 q.2 ∧ PySem.W.exmOne X.K cls c = some true ∧ d = none }, tD X.K W0 (q.1.2.set i (.v (.ref a))) (hdD D i) E σ H) := fun a oe cls d pn hz hv => PSs_ex fun q => by
    obtain ⟨b, h1, h2, _⟩ := hh cls q.1.1 q.1.2 q.2.1
    rw [q.2.2.1] at h1
    cases h1
    exact h2 rfl a oe d pn hz hv fun _ => q.2.2.2
  refine PS_imp (ps_try_as hs hf hN hi hln hc tk (tb := fun W => tD X.K W ρ { D with ex := M }) (fun W pn xe t p => hb W pn xe t p) hsu) fun E σ H ⟨C, F, se, cv⟩ => ⟨C, F, se, ?_⟩
  refine ⟨cv.nx, cv.rt, fun cls fs ρ' d F' H' σ' m s r => ?_, cv.bk, cv.ct, cv.rn⟩
  have e0 := hM cls fs ρ' m
  subst e0
  obtain ⟨b, h1, h2, h3⟩ := hh cls [] ρ' m
  refine ⟨b, h1, fun hb1 a na => ?_, fun hb0 => cv.ex cls [] ρ' d F' H' σ' (h3 hb0) s r⟩
  subst hb1
  cases d with
  | some dd =>
    exact absurd rfl r.1
  | none =>
    refine ⟨⟨([], ρ'), m, h1, rfl⟩, C, F', s.setV i _, ?_⟩
    exact ⟨fun r F2 H2 σ2 q s2 => cv.nx _ F2 H2 _ q (s2.unset i), cv.rt, fun _ _ _ _ _ _ _ z => z.elim, fun r F2 H2 σ2 q s2 => cv.bk _ F2 H2 _ q (s2.unset i), fun r F2 H2 σ2 q s2 => cv.ct _ F2 H2 _ q (s2.unset i), cv.rn⟩
/-- isinstance(e, c), e the exception that is held -/
theorem pd_isX {a0 : Addr} {oe : Obj} {pn : List (Addr × Obj)} {q : Pos} {cv : Value} {vc : V} (i : Nat) (xc : ExcC X.K C) (hz : Zc (.ref C) none oe) (hf : ∃ vs, oe.data = .fields vs) (hk : PySem.W.kitOne X.K (.ref C) cv = some k) (hv : ∀ u, RelV vc u → u = cv) (hm : X.mg ("isinstance" : Str) = none) (hi : ρ[i]? = some (.v (.ref a0))) (hc : PE (X.suite a0 ((a0, oe) :: pn)) c (tC vc))
    (hN : (X.suite a0 ((a0, oe) :: pn)).N[i]? = some n := by rfl) (hvis : Vis (X.suite a0 ((a0, oe) :: pn)).env.scope n := by first | exact Or.inl rfl | exact Or.inr (Or.inl rfl) | exact Or.inr (Or.inr rfl)) (hd : (n == ("__debug__" : Str)) = false := by decide) (hcd : (n == ("__classdict__" : Str)) = false := by decide)
    (hg : Gl (X.suite a0 ((a0, oe) :: pn)) "isinstance" := by rfl) (he : starEach [.Name n q, c] (X.suite a0 ((a0, oe) :: pn)).env = (false, eval (.Name n q) (X.suite a0 ((a0, oe) :: pn)).env) :: starEach [c] (X.suite a0 ((a0, oe) :: pn)).env := by rfl) (he2 : starEach [c] (X.suite a0 ((a0, oe) :: pn)).env = (false, eval c (X.suite a0 ((a0, oe) :: pn)).env) :: starEach [] (X.suite a0 ((a0, oe) :: pn)).env := by rfl)
    (hpl : (backTo pos (starEach [c] (X.suite a0 ((a0, oe) :: pn)).env)).any (·.1) = false := by rfl) : PD (X.suite a0 ((a0, oe) :: pn)) (.Call (.Name "isinstance" p) [.Name n q, c] [] pos) ρ (.bool k) ρ :=
  PE_imp (pe_callB (call_isE xc hz hf) hg hm rfl (pa_cons (pe_var hN hvis hd hcd) (pa_cons hc pa_nil he2) he) (by decide) (by decide) he hpl) fun σ H Q ⟨C, F, se, qq⟩ => by
    have h0 : σ[i]?.join = some (V.ref a0) := se.ok i _ hi
    exact ⟨.ref a0, join_some h0, vc, cv, k, rfl, hv, hk, qq _ F H (.refl _) se (.bl _)⟩
end
end G
namespace G
open PySem PySem.Spec PyProof.Rows L2
/-- a whole number in bounds -/
def isNum : PyData → Int → Int → Bool
  | .int i, l, m => decide (l ≤ i) && decide (i ≤ m)
  | _, _, _ => false
theorem isNum_int {i l m : Int} : isNum (.int i) l m = (decide (l ≤ i) && decide (i ≤ m)) := rfl
theorem isNum_inv {d : PyData} {l m : Int} (h : isNum d l m = true) : ∃ i, d = .int i ∧ l ≤ i ∧ i ≤ m := by
  cases d with
  | int i =>
    rw [isNum_int, Bool.and_eq_true] at h
    exact ⟨i, rfl, of_decide_eq_true h.1, of_decide_eq_true h.2⟩
  | _ => cases h
/-- its text is short -/
def Sml (i : Int) : Prop := (toString i : Str).length ≤ 1000 ∧ i.natAbs.log2 < 1920
theorem strlen_add (a b : Str) : (a ++ b).length = a.length + b.length := by
  show (a.cps ++ b.cps).size = _
  rw [Array.size_append]
  rfl
end G
namespace G
open PySem PySem.Spec PyProof.Rows L2
instance (i : Int) : Decidable (Sml i) := inferInstanceAs (Decidable (_ ∧ _))
theorem sml_of {n : Int} (h0 : 0 ≤ n) (h : n < 10 ^ 10) : Sml n := by
  refine ⟨?_, ?_⟩
  · have h1 := PyProof.Rows.toString_length_le h0 (show 0 < 10 by decide) h
    have h2 : ((toString n : String) : Str).length ≤ 10 := h1
    omega
  · exact Nat.lt_of_lt_of_le (PySem.Flt.log2_lt_of (k := 34) (by decide) (by omega)) (by decide)
end G

namespace GP
open PySem PySem.Spec PyProof.Rows L2 G
/-! ### the text -/
def topS (i : Nat) : Stmt := PySem.Challenge.pw_grainhaul_k56_amounts_that_spoil.main.body.getD i (.Pass ⟨0, 0, 0, 0⟩)
abbrev s__law_draw : Stmt := topS 19
abbrev n__law_draw : List Str := [("pool" : Str), ("many" : Str), ("found" : Str), ("cell" : Str), ("stirred" : Str)]
theorem sc__law_draw : FnScope n__law_draw [("pool" : Str), ("many" : Str)] (defScope s__law_draw) := ⟨rfl, rfl, rfl, by decide +kernel, rfl, by decide +kernel, by decide +kernel⟩
def d__law_draw : He.DefD := ⟨("_law_draw", none), "_law_draw", "_law_draw", defArgs s__law_draw, defBody s__law_draw, defScope s__law_draw, [], []⟩
abbrev s__law_pick : Stmt := topS 20
abbrev n__law_pick : List Str := [("pool" : Str), ("rows" : Str)]
theorem sc__law_pick : FnScope n__law_pick [("pool" : Str), ("rows" : Str)] (defScope s__law_pick) := ⟨rfl, rfl, rfl, by decide +kernel, rfl, by decide +kernel, by decide +kernel⟩
def d__law_pick : He.DefD := ⟨("_law_pick", none), "_law_pick", "_law_pick", defArgs s__law_pick, defBody s__law_pick, defScope s__law_pick, [], []⟩
abbrev s_is_number : Stmt := topS 5
abbrev n_is_number : List Str := [("value" : Str), ("least" : Str), ("most" : Str)]
theorem sc_is_number : FnScope n_is_number [("value" : Str), ("least" : Str), ("most" : Str)] (defScope s_is_number) := ⟨rfl, rfl, rfl, by decide +kernel, rfl, by decide +kernel, by decide +kernel⟩
def d_is_number : He.DefD := ⟨("is_number", none), "is_number", "is_number", defArgs s_is_number, defBody s_is_number, defScope s_is_number, [.int 0, .int 1000000], []⟩
abbrev s_checked_number : Stmt := topS 6
abbrev n_checked_number : List Str := [("value" : Str), ("least" : Str), ("most" : Str)]
theorem sc_checked_number : FnScope n_checked_number [("value" : Str), ("least" : Str), ("most" : Str)] (defScope s_checked_number) := ⟨rfl, rfl, rfl, by decide +kernel, rfl, by decide +kernel, by decide +kernel⟩
def d_checked_number : He.DefD := ⟨("checked_number", none), "checked_number", "checked_number", defArgs s_checked_number, defBody s_checked_number, defScope s_checked_number, [.int 0, .int 1000000], []⟩
abbrev s_dried : Stmt := topS 13
abbrev n_dried : List Str := [("amount" : Str), ("wet" : Str), ("aim" : Str)]
theorem sc_dried : FnScope n_dried [("amount" : Str), ("wet" : Str), ("aim" : Str)] (defScope s_dried) := ⟨rfl, rfl, rfl, by decide +kernel, rfl, by decide +kernel, by decide +kernel⟩
def d_dried : He.DefD := ⟨("dried", none), "dried", "dried", defArgs s_dried, defBody s_dried, defScope s_dried, [], []⟩
abbrev s_last_day : Stmt := topS 11
abbrev n_last_day : List Str := [("amount" : Str), ("rate" : Str), ("need" : Str), ("days" : Str)]
theorem sc_last_day : FnScope n_last_day [("amount" : Str), ("rate" : Str), ("need" : Str)] (defScope s_last_day) := ⟨rfl, rfl, rfl, by decide +kernel, rfl, by decide +kernel, by decide +kernel⟩
def d_last_day : He.DefD := ⟨("last_day", none), "last_day", "last_day", defArgs s_last_day, defBody s_last_day, defScope s_last_day, [], []⟩
abbrev s_left : Stmt := topS 9
abbrev n_left : List Str := [("amount" : Str), ("rate" : Str), ("days" : Str), ("day" : Str)]
theorem sc_left : FnScope n_left [("amount" : Str), ("rate" : Str), ("days" : Str)] (defScope s_left) := ⟨rfl, rfl, rfl, by decide +kernel, rfl, by decide +kernel, by decide +kernel⟩
def d_left : He.DefD := ⟨("left", none), "left", "left", defArgs s_left, defBody s_left, defScope s_left, [], []⟩
abbrev s_mixed : Stmt := topS 12
abbrev n_mixed : List Str := [("parts" : Str), ("total" : Str), ("water" : Str), ("amount" : Str), ("wet" : Str)]
theorem sc_mixed : FnScope n_mixed [("parts" : Str)] (defScope s_mixed) := ⟨rfl, rfl, rfl, by decide +kernel, rfl, by decide +kernel, by decide +kernel⟩
def d_mixed : He.DefD := ⟨("mixed", none), "mixed", "mixed", defArgs s_mixed, defBody s_mixed, defScope s_mixed, [], []⟩
abbrev s_needed : Stmt := topS 10
abbrev n_needed : List Str := [("need" : Str), ("rate" : Str), ("days" : Str), ("low" : Str), ("high" : Str), ("middle" : Str)]
theorem sc_needed : FnScope n_needed [("need" : Str), ("rate" : Str), ("days" : Str)] (defScope s_needed) := ⟨rfl, rfl, rfl, by decide +kernel, rfl, by decide +kernel, by decide +kernel⟩
def d_needed : He.DefD := ⟨("needed", none), "needed", "needed", defArgs s_needed, defBody s_needed, defScope s_needed, [], []⟩
abbrev s__law_refused : Stmt := topS 22
abbrev n__law_refused : List Str := [("choice" : Str), ("one" : Str), ("two" : Str), ("three" : Str), ("problem" : Str)]
theorem sc__law_refused : FnScope n__law_refused [("choice" : Str), ("one" : Str), ("two" : Str), ("three" : Str)] (defScope s__law_refused) := ⟨rfl, rfl, rfl, by decide +kernel, rfl, by decide +kernel, by decide +kernel⟩
def d__law_refused : He.DefD := ⟨("_law_refused", none), "_law_refused", "_law_refused", defArgs s__law_refused, defBody s__law_refused, defScope s__law_refused, [], []⟩
abbrev s__law_errors_right : Stmt := topS 23
abbrev n__law_errors_right : List Str := [("pool" : Str), ("amount" : Str), ("rate" : Str), ("choice" : Str)]
theorem sc__law_errors_right : FnScope n__law_errors_right [("pool" : Str)] (defScope s__law_errors_right) := ⟨rfl, rfl, rfl, by decide +kernel, rfl, by decide +kernel, by decide +kernel⟩
def d__law_errors_right : He.DefD := ⟨("_law_errors_right", none), "_law_errors_right", "_law_errors_right", defArgs s__law_errors_right, defBody s__law_errors_right, defScope s__law_errors_right, [], []⟩
abbrev s__law_left : Stmt := topS 21
abbrev n__law_left : List Str := [("amount" : Str), ("rate" : Str), ("days" : Str), ("day" : Str), ("gone" : Str)]
theorem sc__law_left : FnScope n__law_left [("amount" : Str), ("rate" : Str), ("days" : Str)] (defScope s__law_left) := ⟨rfl, rfl, rfl, by decide +kernel, rfl, by decide +kernel, by decide +kernel⟩
def d__law_left : He.DefD := ⟨("_law_left", none), "_law_left", "_law_left", defArgs s__law_left, defBody s__law_left, defScope s__law_left, [], []⟩
abbrev s__law_pool : Stmt := topS 18
abbrev n__law_pool : List Str := [("script" : Str)]
theorem sc__law_pool : FnScope n__law_pool [("script" : Str)] (defScope s__law_pool) := ⟨rfl, rfl, rfl, by decide +kernel, rfl, by decide +kernel, by decide +kernel⟩
def d__law_pool : He.DefD := ⟨("_law_pool", none), "_law_pool", "_law_pool", defArgs s__law_pool, defBody s__law_pool, defScope s__law_pool, [], []⟩
abbrev s__law_same : Stmt := topS 17
abbrev n__law_same : List Str := [("actual" : Str), ("due" : Str), ("k" : Str)]
theorem sc__law_same : FnScope n__law_same [("actual" : Str), ("due" : Str)] (defScope s__law_same) := ⟨rfl, rfl, rfl, by decide +kernel, rfl, by decide +kernel, by decide +kernel⟩
def d__law_same : He.DefD := ⟨("_law_same", none), "_law_same", "_law_same", defArgs s__law_same, defBody s__law_same, defScope s__law_same, [], []⟩
abbrev s_is_losing : Stmt := topS 14
abbrev n_is_losing : List Str := [("series" : Str), ("rows" : Str), ("amount" : Str), ("index" : Str)]
theorem sc_is_losing : FnScope n_is_losing [("series" : Str)] (defScope s_is_losing) := ⟨rfl, rfl, rfl, by decide +kernel, rfl, by decide +kernel, by decide +kernel⟩
def d_is_losing : He.DefD := ⟨("is_losing", none), "is_losing", "is_losing", defArgs s_is_losing, defBody s_is_losing, defScope s_is_losing, [], []⟩
abbrev s_rates : Stmt := topS 15
abbrev n_rates : List Str := [("series" : Str), ("fitting" : Str), ("rate" : Str), ("index" : Str)]
theorem sc_rates : FnScope n_rates [("series" : Str)] (defScope s_rates) := ⟨rfl, rfl, rfl, by decide +kernel, rfl, by decide +kernel, by decide +kernel⟩
def d_rates : He.DefD := ⟨("rates", none), "rates", "rates", defArgs s_rates, defBody s_rates, defScope s_rates, [], []⟩
abbrev s_law : Stmt := topS 24
abbrev n_law : List Str := [("script" : Str), ("pool" : Str), ("k" : Str), ("amount" : Str), ("rate" : Str), ("days" : Str), ("rest" : Str), ("need" : Str), ("least" : Str), ("day" : Str), ("parts" : Str), ("total" : Str), ("row" : Str), ("water" : Str), ("told" : Str), ("wet" : Str), ("aim" : Str), ("dry" : Str), ("series" : Str), ("fit" : Str), ("one" : Str)]
theorem sc_law : FnScope n_law [("script" : Str)] (defScope s_law) := ⟨rfl, rfl, rfl, by decide +kernel, rfl, by decide +kernel, by decide +kernel⟩
def d_law : He.DefD := ⟨("law", none), "law", "law", defArgs s_law, defBody s_law, defScope s_law, [], []⟩
def fn : List He.DefD := [d__law_draw, d__law_pick, d_is_number, d_checked_number, d_dried, d_last_day, d_left, d_mixed, d_needed, d__law_refused, d__law_errors_right, d__law_left, d__law_pool, d__law_same, d_is_losing, d_rates, d_law]
def fA : List He.Fa := [.glo "_law_draw", .glo "_law_pick", .glo "is_number", .glo "checked_number", .glo "dried", .glo "last_day", .glo "left", .glo "mixed", .glo "needed", .glo "_law_refused", .glo "_law_errors_right", .glo "_law_left", .glo "_law_pool", .glo "_law_same", .glo "is_losing", .glo "rates", .glo "law", .free "ValueError", .free "abs", .free "all", .free "bool", .free "int", .free "isinstance", .free "len", .free "list", .free "max", .free "min", .free "range", .free "str", .free "sum", .free "tuple", .int "DAYS" (1000), .int "GREATEST" (1000000), .exc "GrainError", .glo "GrainError", .exc "InvalidNumber", .glo "InvalidNumber"]
def exL (K : PySem.W.Frag) : List Bool := [decide (PySem.W.findIn K (.ref (He.ga K "InvalidNumber")) "__getattribute__" = some (some (.builtin "BaseException.__getattribute__"))), decide (PySem.W.findIn K (.ref (He.ga K "InvalidNumber")) "__getattr__" = some none), decide (PySem.W.subIn K (.ref (He.ga K "InvalidNumber")) (.type "BaseException") = some true), PySem.W.hasDictIn K (He.ga K "InvalidNumber"), decide (PySem.W.findIn K (.ref (He.ga K "InvalidNumber")) "__class__" = some (some (.builtin "object.__class__"))), decide (PySem.W.specialIn K (.builtin "object.__class__") "__get__" = some (some (.builtin "getset_descriptor.__get__"))), decide (PySem.W.takesIn K (.builtin "object.__class__") = some true), decide (PySem.W.mroIn K (He.ga K "InvalidNumber") (.type "object") = some true), decide (PySem.W.exmOne K (.ref (He.ga K "InvalidNumber")) (.ref (He.ga K "GrainError")) = some true), decide (PySem.W.kitOne K (.ref (He.ga K "InvalidNumber")) (.ref (He.ga K "InvalidNumber")) = some true), decide (PySem.W.kitOne K (.ref (He.ga K "InvalidNumber")) (.type "ValueError") = some true)]
def exB (K : PySem.W.Frag) : Bool := (exL K).all fun b => b
/-- what the top has written -/
structure Py (K : PySem.W.Frag) (mg : Str → Option Value) : Prop where
  d__law_draw : ∃ fd, FunD K "_law_draw" "_law_draw" (defArgs s__law_draw) (defBody s__law_draw) (defScope s__law_draw) [] [] (He.ga K "_law_draw") fd
  g__law_draw : mg "_law_draw" = some (.ref (He.ga K "_law_draw"))
  d__law_pick : ∃ fd, FunD K "_law_pick" "_law_pick" (defArgs s__law_pick) (defBody s__law_pick) (defScope s__law_pick) [] [] (He.ga K "_law_pick") fd
  g__law_pick : mg "_law_pick" = some (.ref (He.ga K "_law_pick"))
  d_is_number : ∃ fd, FunD K "is_number" "is_number" (defArgs s_is_number) (defBody s_is_number) (defScope s_is_number) [.int 0, .int 1000000] [] (He.ga K "is_number") fd
  g_is_number : mg "is_number" = some (.ref (He.ga K "is_number"))
  d_checked_number : ∃ fd, FunD K "checked_number" "checked_number" (defArgs s_checked_number) (defBody s_checked_number) (defScope s_checked_number) [.int 0, .int 1000000] [] (He.ga K "checked_number") fd
  g_checked_number : mg "checked_number" = some (.ref (He.ga K "checked_number"))
  d_dried : ∃ fd, FunD K "dried" "dried" (defArgs s_dried) (defBody s_dried) (defScope s_dried) [] [] (He.ga K "dried") fd
  g_dried : mg "dried" = some (.ref (He.ga K "dried"))
  d_last_day : ∃ fd, FunD K "last_day" "last_day" (defArgs s_last_day) (defBody s_last_day) (defScope s_last_day) [] [] (He.ga K "last_day") fd
  g_last_day : mg "last_day" = some (.ref (He.ga K "last_day"))
  d_left : ∃ fd, FunD K "left" "left" (defArgs s_left) (defBody s_left) (defScope s_left) [] [] (He.ga K "left") fd
  g_left : mg "left" = some (.ref (He.ga K "left"))
  d_mixed : ∃ fd, FunD K "mixed" "mixed" (defArgs s_mixed) (defBody s_mixed) (defScope s_mixed) [] [] (He.ga K "mixed") fd
  g_mixed : mg "mixed" = some (.ref (He.ga K "mixed"))
  d_needed : ∃ fd, FunD K "needed" "needed" (defArgs s_needed) (defBody s_needed) (defScope s_needed) [] [] (He.ga K "needed") fd
  g_needed : mg "needed" = some (.ref (He.ga K "needed"))
  d__law_refused : ∃ fd, FunD K "_law_refused" "_law_refused" (defArgs s__law_refused) (defBody s__law_refused) (defScope s__law_refused) [] [] (He.ga K "_law_refused") fd
  g__law_refused : mg "_law_refused" = some (.ref (He.ga K "_law_refused"))
  d__law_errors_right : ∃ fd, FunD K "_law_errors_right" "_law_errors_right" (defArgs s__law_errors_right) (defBody s__law_errors_right) (defScope s__law_errors_right) [] [] (He.ga K "_law_errors_right") fd
  g__law_errors_right : mg "_law_errors_right" = some (.ref (He.ga K "_law_errors_right"))
  d__law_left : ∃ fd, FunD K "_law_left" "_law_left" (defArgs s__law_left) (defBody s__law_left) (defScope s__law_left) [] [] (He.ga K "_law_left") fd
  g__law_left : mg "_law_left" = some (.ref (He.ga K "_law_left"))
  d__law_pool : ∃ fd, FunD K "_law_pool" "_law_pool" (defArgs s__law_pool) (defBody s__law_pool) (defScope s__law_pool) [] [] (He.ga K "_law_pool") fd
  g__law_pool : mg "_law_pool" = some (.ref (He.ga K "_law_pool"))
  d__law_same : ∃ fd, FunD K "_law_same" "_law_same" (defArgs s__law_same) (defBody s__law_same) (defScope s__law_same) [] [] (He.ga K "_law_same") fd
  g__law_same : mg "_law_same" = some (.ref (He.ga K "_law_same"))
  d_is_losing : ∃ fd, FunD K "is_losing" "is_losing" (defArgs s_is_losing) (defBody s_is_losing) (defScope s_is_losing) [] [] (He.ga K "is_losing") fd
  g_is_losing : mg "is_losing" = some (.ref (He.ga K "is_losing"))
  d_rates : ∃ fd, FunD K "rates" "rates" (defArgs s_rates) (defBody s_rates) (defScope s_rates) [] [] (He.ga K "rates") fd
  g_rates : mg "rates" = some (.ref (He.ga K "rates"))
  d_law : ∃ fd, FunD K "law" "law" (defArgs s_law) (defBody s_law) (defScope s_law) [] [] (He.ga K "law") fd
  g_law : mg "law" = some (.ref (He.ga K "law"))
  z_ValueError : mg ("ValueError" : Str) = none
  z_abs : mg ("abs" : Str) = none
  z_all : mg ("all" : Str) = none
  z_bool : mg ("bool" : Str) = none
  z_int : mg ("int" : Str) = none
  z_isinstance : mg ("isinstance" : Str) = none
  z_len : mg ("len" : Str) = none
  z_list : mg ("list" : Str) = none
  z_max : mg ("max" : Str) = none
  z_min : mg ("min" : Str) = none
  z_range : mg ("range" : Str) = none
  z_str : mg ("str" : Str) = none
  z_sum : mg ("sum" : Str) = none
  z_tuple : mg ("tuple" : Str) = none
  i_DAYS : ∃ t, mg ("DAYS" : Str) = some (.int (1000) t)
  i_GREATEST : ∃ t, mg ("GREATEST" : Str) = some (.int (1000000) t)
  x_GrainError : XC K mg "GrainError"
  x_InvalidNumber : XC K mg "InvalidNumber"
  e_InvalidNumber : ExcC K (He.ga K "InvalidNumber")
  m_InvalidNumber_GrainError : PySem.W.exmOne K (.ref (He.ga K "InvalidNumber")) (.ref (He.ga K "GrainError")) = some true
  k_InvalidNumber_InvalidNumber : PySem.W.kitOne K (.ref (He.ga K "InvalidNumber")) (.ref (He.ga K "InvalidNumber")) = some true
  k_InvalidNumber_ValueError : PySem.W.kitOne K (.ref (He.ga K "InvalidNumber")) (.type "ValueError") = some true
theorem py_of {w : World} {K : PySem.W.Frag} {h : Heap} {mg : Str → Option Value} (X : K.In h) (G : h.Ns mainGlobals mg) (cx : He.SaysX fA fn [] [] exB w h K) : Py K mg := by
  have c := cx.t.d
  have m : ∀ (i : Nat) (b : Bool), (exL K)[i]? = some b → b = true := fun i b e => List.all_eq_true.mp cx.more b (List.mem_of_getElem? e)
  exact {
  d__law_draw := c.def_ 0 (d := d__law_draw) rfl
  g__law_draw := He.glo_ok X G (c.fact 0 (f := .glo "_law_draw") rfl)
  d__law_pick := c.def_ 1 (d := d__law_pick) rfl
  g__law_pick := He.glo_ok X G (c.fact 1 (f := .glo "_law_pick") rfl)
  d_is_number := c.def_ 2 (d := d_is_number) rfl
  g_is_number := He.glo_ok X G (c.fact 2 (f := .glo "is_number") rfl)
  d_checked_number := c.def_ 3 (d := d_checked_number) rfl
  g_checked_number := He.glo_ok X G (c.fact 3 (f := .glo "checked_number") rfl)
  d_dried := c.def_ 4 (d := d_dried) rfl
  g_dried := He.glo_ok X G (c.fact 4 (f := .glo "dried") rfl)
  d_last_day := c.def_ 5 (d := d_last_day) rfl
  g_last_day := He.glo_ok X G (c.fact 5 (f := .glo "last_day") rfl)
  d_left := c.def_ 6 (d := d_left) rfl
  g_left := He.glo_ok X G (c.fact 6 (f := .glo "left") rfl)
  d_mixed := c.def_ 7 (d := d_mixed) rfl
  g_mixed := He.glo_ok X G (c.fact 7 (f := .glo "mixed") rfl)
  d_needed := c.def_ 8 (d := d_needed) rfl
  g_needed := He.glo_ok X G (c.fact 8 (f := .glo "needed") rfl)
  d__law_refused := c.def_ 9 (d := d__law_refused) rfl
  g__law_refused := He.glo_ok X G (c.fact 9 (f := .glo "_law_refused") rfl)
  d__law_errors_right := c.def_ 10 (d := d__law_errors_right) rfl
  g__law_errors_right := He.glo_ok X G (c.fact 10 (f := .glo "_law_errors_right") rfl)
  d__law_left := c.def_ 11 (d := d__law_left) rfl
  g__law_left := He.glo_ok X G (c.fact 11 (f := .glo "_law_left") rfl)
  d__law_pool := c.def_ 12 (d := d__law_pool) rfl
  g__law_pool := He.glo_ok X G (c.fact 12 (f := .glo "_law_pool") rfl)
  d__law_same := c.def_ 13 (d := d__law_same) rfl
  g__law_same := He.glo_ok X G (c.fact 13 (f := .glo "_law_same") rfl)
  d_is_losing := c.def_ 14 (d := d_is_losing) rfl
  g_is_losing := He.glo_ok X G (c.fact 14 (f := .glo "is_losing") rfl)
  d_rates := c.def_ 15 (d := d_rates) rfl
  g_rates := He.glo_ok X G (c.fact 15 (f := .glo "rates") rfl)
  d_law := c.def_ 16 (d := d_law) rfl
  g_law := He.glo_ok X G (c.fact 16 (f := .glo "law") rfl)
  z_ValueError := He.free_ok X G (c.fact 17 (f := .free "ValueError") rfl)
  z_abs := He.free_ok X G (c.fact 18 (f := .free "abs") rfl)
  z_all := He.free_ok X G (c.fact 19 (f := .free "all") rfl)
  z_bool := He.free_ok X G (c.fact 20 (f := .free "bool") rfl)
  z_int := He.free_ok X G (c.fact 21 (f := .free "int") rfl)
  z_isinstance := He.free_ok X G (c.fact 22 (f := .free "isinstance") rfl)
  z_len := He.free_ok X G (c.fact 23 (f := .free "len") rfl)
  z_list := He.free_ok X G (c.fact 24 (f := .free "list") rfl)
  z_max := He.free_ok X G (c.fact 25 (f := .free "max") rfl)
  z_min := He.free_ok X G (c.fact 26 (f := .free "min") rfl)
  z_range := He.free_ok X G (c.fact 27 (f := .free "range") rfl)
  z_str := He.free_ok X G (c.fact 28 (f := .free "str") rfl)
  z_sum := He.free_ok X G (c.fact 29 (f := .free "sum") rfl)
  z_tuple := He.free_ok X G (c.fact 30 (f := .free "tuple") rfl)
  i_DAYS := He.int_ok X G (c.fact 31 (f := .int "DAYS" (1000)) rfl)
  i_GREATEST := He.int_ok X G (c.fact 32 (f := .int "GREATEST" (1000000)) rfl)
  x_GrainError := by
    obtain ⟨x1, x2, x3, x4⟩ := He.exc_ok (c.fact 33 (f := .exc "GrainError") rfl)
    exact ⟨x1, x2, x3, x4, He.glo_ok X G (c.fact 34 (f := .glo "GrainError") rfl)⟩
  x_InvalidNumber := by
    obtain ⟨x1, x2, x3, x4⟩ := He.exc_ok (c.fact 35 (f := .exc "InvalidNumber") rfl)
    exact ⟨x1, x2, x3, x4, He.glo_ok X G (c.fact 36 (f := .glo "InvalidNumber") rfl)⟩
  e_InvalidNumber := ⟨of_decide_eq_true (m 0 _ rfl), of_decide_eq_true (m 1 _ rfl), of_decide_eq_true (m 2 _ rfl), m 3 _ rfl, of_decide_eq_true (m 4 _ rfl), of_decide_eq_true (m 5 _ rfl), of_decide_eq_true (m 6 _ rfl), of_decide_eq_true (m 7 _ rfl)⟩
  m_InvalidNumber_GrainError := of_decide_eq_true (m 8 _ rfl)
  k_InvalidNumber_InvalidNumber := of_decide_eq_true (m 9 _ rfl)
  k_InvalidNumber_ValueError := of_decide_eq_true (m 10 _ rfl)
  }
end GP

namespace GP
open PySem PySem.Spec PyProof.Rows L2 G
section
variable {P : Program} {w : World} {K : PySem.W.Frag} {mg : Str → Option Value} {base : Heap}
theorem c__law_draw (Y : Py K mg) : Cal P w K mg base 1 "_law_draw" (spO K SDraw) [] := by
  obtain ⟨fd, F⟩ := Y.d__law_draw
  have bb := F.bindsN (ps := ["pool", "many"]) fun _ _ _ _ _ _ us hl => match us, hl with | [_, _], _ => rfl
  refine ⟨_, fd, _, [], fn_OD F sc__law_draw (fun xs ds y xs' h => by obtain ⟨_, _, _, _, rfl, _⟩ := h; rfl) (by decide) (fun cdv A outer s H E hr l xs ds y xs' h => ?_), Y.g__law_draw, F.kp, bb, .nil⟩
  obtain ⟨p, n, r, rfl, rfl, ⟨n0, n1, a0⟩, hr', rfl, rfl⟩ := h
  -- the last part, from any pool
  have tail : ∀ (q : Pool) (s2 s3 : Sl), r = drawEnd q n → BD (cxOf (L2.CX P w) P w K mg base n__law_draw "_law_draw" (defScope s__law_draw) (He.ga K "_law_draw") cdv A outer s H E) (WB E) ((defBody s__law_draw).drop 2) [.o (some l) (.l (pl q)), .d (.int n), s2, s3, .un] { rt := fun x ρ => x = .int r.1 ∧ ρ[0]? = some (.o (some l) (.l (pl r.2))), nx := fun ρ => PyData.int r.1 = .none ∧ ρ[0]? = some (.o (some l) (.l (pl r.2))) } := by
    intro q s2 s3 e
    subst e
    refine bd_seq (sd_setix (ix := 4) (n := 4) 0 (pd_add (pd_ixO (i := 4) 0 rfl pd_int rfl rfl) pd_int) rfl pd_int rfl rfl rfl) ?_
    refine bd_seq (sd_set 4 (pd_mod (by decide) (pd_int1 Y.z_int (pd_add (pd_add (pd_mul (.inr (by decide)) (pd_ixO (i := 3) 0 rfl pd_int rfl rfl) pd_int) (pd_mul (.inr (by decide)) (pd_ixO (i := 4) 0 rfl pd_int rfl rfl) pd_int)) pd_int)) pd_int) rfl sc__law_draw.nd) ?_
    refine bd_seq (sd_set 4 (pd_mod (by decide) (pd_int1 Y.z_int (pd_add (pd_mul ?m1 (pd_var 4 rfl) (pd_var 4 rfl)) (pd_mul (.inr (by decide)) (pd_ixO (i := 4) 0 rfl pd_int rfl rfl) pd_int))) pd_int) rfl sc__law_draw.nd) ?_
    case m1 => 
      refine .inl ⟨?_, ?_⟩
      · have := Int.emod_nonneg (q.c * 48271 + (q.d + 1) * 69621 + 7919) (show (2147483647 : Int) ≠ 0 by decide)
        omega
      · have := Int.emod_lt_of_pos (q.c * 48271 + (q.d + 1) * 69621 + 7919) (show (0 : Int) < 2147483647 by decide)
        omega
    exact bd_one (sd_ret (pd_mod n0 (pd_int1 Y.z_int (pd_var 4 rfl)) (pd_var 1 rfl)) ⟨rfl, rfl⟩)
  refine bd_env (ρ' := [.o (some l) (.l (pl p)), .d (.int n), .un, .un, .un]) rfl ?_
  refine bd_guard (td_gt (pd_ixO (i := 2) 0 rfl pd_int rfl rfl) pd_int) (fun hk => ?_) (fun hk => ?_)
  · have hk := of_decide_eq_true hk
    have e : drawP p n = (p.b % n, { p with b := p.b / n }) := by unfold drawP; rw [if_pos hk]
    rw [e] at hr'
    subst hr'
    refine bd_seq (sd_set 2 (pd_mod n0 (pd_int1 Y.z_int (pd_ixO (i := 2) 0 rfl pd_int rfl rfl)) (pd_var 1 rfl)) rfl sc__law_draw.nd) ?_
    refine bd_seq (sd_setix (ix := 2) (n := 2) 0 (pd_fdiv ⟨n0, n1⟩ (pd_ixO (i := 2) 0 rfl pd_int rfl rfl) (pd_var 1 rfl)) rfl pd_int rfl rfl rfl) ?_
    exact bd_one (sd_ret (pd_var 2 rfl) ⟨rfl, rfl⟩)
  · have hk := of_decide_eq_false hk
    have e0 : drawP p n = if decide (p.d % 8 = 0) && decide (p.a < p.l.length) then
        let cell : Int := (gI p.l p.a).natAbs
        if cell ≥ 10 ^ 18 then (cell % n, { p with a := p.a + 1, b := cell / n })
        else drawEnd { p with a := p.a + 1, c := cell } n
      else drawEnd p n := by unfold drawP; rw [if_neg hk]
    rw [e0] at hr'
    refine bd_cut (fun ρ => ∃ (q : Pool) (s2 s3 : Sl), ρ = [.o (some l) (.l (pl q)), .d (.int n), s2, s3, .un] ∧ r = drawEnd q n) (sd_if (k := decide (p.d % 8 = 0) && decide (p.a < p.l.length)) (td_w (wd_and (td_eqI (pd_mod (by decide) (pd_int1 Y.z_int (pd_ixO (i := 4) 0 rfl pd_int rfl rfl)) pd_int) pd_int) fun _ => wd_and1 (td_lt (pd_ixO (i := 1) 0 rfl pd_int rfl rfl) (pd_lenD Y.z_len (pd_ixO (i := 0) 0 rfl pd_int rfl rfl))))) (fun hk2 => ?a) (fun hk2 => ?b)) (fun ρ1 h => ?_)
    case b =>
      rw [hk2] at hr'
      exact bd_nil ⟨p, .un, .un, rfl, hr'⟩
    case a =>
      rw [hk2] at hr'
      obtain ⟨h8, ha⟩ := Bool.and_eq_true_iff.mp hk2
      have ha := of_decide_eq_true ha
      have hr' : r = if (((gI p.l p.a).natAbs : Nat) : Int) ≥ 10 ^ 18 then (((gI p.l p.a).natAbs : Int) % n, { p with a := p.a + 1, b := ((gI p.l p.a).natAbs : Int) / n })
        else drawEnd { p with a := p.a + 1, c := ((gI p.l p.a).natAbs : Int) } n := hr'
      refine bd_seq (sd_set 3 (pd_abs Y.z_abs (pd_gixD (f := PyData.int) (ns := p.l) (i := p.a) ⟨by omega, ha⟩ (pd_ixO (i := 0) 0 rfl pd_int rfl rfl) (pd_ixO (i := 1) 0 rfl pd_int rfl rfl))) rfl sc__law_draw.nd) ?_
      refine bd_seq (sd_setix (ix := 1) (n := 1) 0 (pd_add (pd_ixO (i := 1) 0 rfl pd_int rfl rfl) pd_int) rfl pd_int rfl rfl rfl) ?_
      refine bd_guard (td_ge (pd_var 3 rfl) (pd_pow ⟨by decide, by decide, by decide⟩ pd_int pd_int)) (fun hk3 => ?_) (fun hk3 => ?_)
      · have hk3 := of_decide_eq_true hk3
        have hk3 : ((gI p.l p.a).natAbs : Int) ≥ 10 ^ 18 := hk3
        rw [if_pos hk3] at hr'
        subst hr'
        refine bd_seq (sd_setix (ix := 2) (n := 2) 0 (pd_fdiv ⟨n0, n1⟩ (pd_var 3 rfl) (pd_var 1 rfl)) rfl pd_int rfl rfl rfl) ?_
        exact bd_one (sd_ret (pd_mod n0 (pd_int1 Y.z_int (pd_var 3 rfl)) (pd_var 1 rfl)) ⟨rfl, rfl⟩)
      · have hk3 := of_decide_eq_false hk3
        have hk3 : ¬ ((gI p.l p.a).natAbs : Int) ≥ 10 ^ 18 := hk3
        rw [if_neg hk3] at hr'
        refine bd_one (sd_setix (ix := 3) (n := 3) 0 (pd_var 3 rfl) rfl pd_int rfl rfl ?_)
        exact ⟨_, .un, _, rfl, hr'⟩
    obtain ⟨q, s2, s3, rfl, e⟩ := h
    exact tail q s2 s3 e

def SPool (ds : List PyData) (r : Res) : Prop := ∃ ns : List Int, ds = [.list (ns.map .int)] ∧ r = .own (.l (pl ⟨ns, 0, 0, 0, 0⟩))
theorem c__law_pool (Y : Py K mg) : Cal P w K mg base 1 "_law_pool" (spD K SPool) [] := by
  obtain ⟨fd, F⟩ := Y.d__law_pool
  have bb := F.bindsN (ps := ["script"]) fun _ _ _ _ _ _ us hl => match us, hl with | [_], _ => rfl
  refine ⟨_, fd, _, [], fn_DD F sc__law_pool (fun ds r h => by obtain ⟨_, rfl, _⟩ := h; rfl) (by decide) (fun cdv A outer s H E hr ds r h => ?_), Y.g__law_pool, F.kp, bb, .nil⟩
  obtain ⟨ns, rfl, rfl⟩ := h
  exact bd_one (sd_retO (pn_lst (ad_cons (pd_n (pd_listD (f := PyData.int) (ns := ns) Y.z_list (pd_var 0 rfl))) (ad_cons pd_int (ad_cons pd_int (ad_cons pd_int (ad_cons pd_int ad_nil)))))) rfl)

def SPick (xs ds : List PyData) (y : PyData) (xs' : List PyData) : Prop := ∃ (p : Pool) (rows : List PyData) (r : Int × Pool), xs = pl p ∧ ds = [.list rows] ∧ (0 < rows.length ∧ rows.length < 100000 ∧ 0 ≤ p.a) ∧ r = drawP p rows.length ∧ rows[r.1.toNat]? = some y ∧ xs' = pl r.2
theorem c__law_pick (Y : Py K mg) : Cal P w K mg base 2 "_law_pick" (spO K SPick) [] := by
  obtain ⟨fd, F⟩ := Y.d__law_pick
  have bb := F.bindsN (ps := ["pool", "rows"]) fun _ _ _ _ _ _ us hl => match us, hl with | [_, _], _ => rfl
  refine ⟨_, fd, _, [], fn_OD F sc__law_pick (fun xs ds y xs' h => by obtain ⟨_, _, _, _, rfl, _⟩ := h; rfl) (by decide) (fun cdv A outer s H E hr l xs ds y xs' h => ?_), Y.g__law_pick, F.kp, bb, .nil⟩
  obtain ⟨p, rows, r, rfl, rfl, ⟨n0, n1, a0⟩, hr', hy, rfl⟩ := h
  have bd := draw_bd p (n := (rows.length : Int)) (by omega)
  rw [← hr'] at bd
  refine bd_one (sd_ret (x := y) (pd_ixL (i := r.1) (xs := rows) ?e srcN (pq_d (pd_var 1 rfl)) (pd_callO 0 (c__law_draw Y) hr .nil rfl (ad_cons (pd_len (xs := rows) Y.z_len (pq_d (pd_var 1 rfl)) srcN) ad_nil) rfl ⟨p, (rows.length : Int), r, rfl, rfl, ⟨by omega, by omega, a0⟩, hr', rfl, rfl⟩)) ⟨rfl, rfl⟩)
  unfold atI ixN
  rw [if_pos bd.1, if_pos bd.2]
  exact hy

theorem c__law_same (Y : Py K mg) : ∀ d : Nat, Cal P w K mg base (d + 1) "_law_same" (spD K (SSame d)) [] := by
  obtain ⟨fd, F⟩ := Y.d__law_same
  have bb := F.bindsN (ps := ["actual", "due"]) fun _ _ _ _ _ _ us hl => match us, hl with | [_, _], _ => rfl
  suffices h : ∀ d : Nat, FnOk P w K mg base (L2.CX P w) (d + 1) (He.ga K "_law_same") fd [("actual" : Str), ("due" : Str)] (spD K (SSame d)) by
    exact fun d => ⟨_, fd, _, [], h d, Y.g__law_same, F.kp, bb, .nil⟩
  intro d
  induction d with
  | zero =>
    refine fn_DD F sc__law_same (fun ds r h => by obtain ⟨_, rfl, _⟩ := h; rfl) (by decide) (fun cdv A outer s H E hr ds r h => ?_)
    obtain ⟨x, rfl, nx, rfl⟩ := h
    refine bd_env (ρ' := [.d x, .d x, .un]) rfl ?_
    cases nx with
    | non =>
      refine bd_guard (k := true) (td_isN (x := .none) (pd_var 1 rfl)) (fun _ => ?_) (fun h => nomatch h)
      exact bd_one (sd_ret (pd_isN (x := .none) (pd_var 0 rfl)) rfl)
    | bl b =>
      refine bd_guard (k := false) (td_isN (x := .bool b) (pd_var 1 rfl)) (fun h => nomatch h) (fun _ => ?_)
      refine bd_guard (k := false || false) (td_val (pd_isi2 (x := .bool b) (T := "tuple") (U := "list") rfl (show kitB "bool" "tuple" = some false by decide +kernel) (show kitB "bool" "list" = some false by decide +kernel) Y.z_isinstance (pe_cls Y.z_tuple rfl) (pe_cls Y.z_list rfl) (pd_var 1 rfl))) (fun h => nomatch h) (fun _ => ?_)
      refine bd_guard (k := true) (td_val (pd_isi (x := .bool b) (T := "bool") rfl (show kitB "bool" "bool" = some true by decide +kernel) Y.z_isinstance (pe_cls Y.z_bool rfl) (pd_var 1 rfl))) (fun _ => ?_) (fun h => nomatch h)
      exact bd_one (sd_ret (pd_and_t (pd_isi (x := .bool b) (T := "bool") rfl (show kitB "bool" "bool" = some true by decide +kernel) Y.z_isinstance (pe_cls Y.z_bool rfl) (pd_var 0 rfl)) (pd_one (pd_eq hr.units rfl rfl (pd_var 0 rfl) (pd_var 1 rfl)))) (by show PyData.bool (PyData.eqv (.bool b) (.bool b)) = .bool true; simp [PyData.eqv]))
    | int i =>
      refine bd_guard (k := false) (td_isN (x := .int i) (pd_var 1 rfl)) (fun h => nomatch h) (fun _ => ?_)
      refine bd_guard (k := false || false) (td_val (pd_isi2 (x := .int i) (T := "tuple") (U := "list") rfl (show kitB "int" "tuple" = some false by decide +kernel) (show kitB "int" "list" = some false by decide +kernel) Y.z_isinstance (pe_cls Y.z_tuple rfl) (pe_cls Y.z_list rfl) (pd_var 1 rfl))) (fun h => nomatch h) (fun _ => ?_)
      refine bd_guard (k := false) (td_val (pd_isi (x := .int i) (T := "bool") rfl (show kitB "int" "bool" = some false by decide +kernel) Y.z_isinstance (pe_cls Y.z_bool rfl) (pd_var 1 rfl))) (fun h => nomatch h) (fun _ => ?_)
      refine bd_guard (k := true) (td_val (pd_isi (x := .int i) (T := "int") rfl (show kitB "int" "int" = some true by decide +kernel) Y.z_isinstance (pe_cls Y.z_int rfl) (pd_var 1 rfl))) (fun _ => ?_) (fun h => nomatch h)
      exact bd_one (sd_ret (pd_and_t (pd_isi (x := .int i) (T := "int") rfl (show kitB "int" "int" = some true by decide +kernel) Y.z_isinstance (pe_cls Y.z_int rfl) (pd_var 0 rfl)) (pd_and_t (pd_not (k := false) (pd_isi (x := .int i) (T := "bool") rfl (show kitB "int" "bool" = some false by decide +kernel) Y.z_isinstance (pe_cls Y.z_bool rfl) (pd_var 0 rfl))) (pd_one (pd_eqI (pd_var 0 rfl) (pd_var 1 rfl))))) (by show PyData.bool (decide (i = i)) = .bool true; simp))
    | str t =>
      refine bd_guard (k := false) (td_isN (x := .str t) (pd_var 1 rfl)) (fun h => nomatch h) (fun _ => ?_)
      refine bd_guard (k := false || false) (td_val (pd_isi2 (x := .str t) (T := "tuple") (U := "list") rfl (show kitB "str" "tuple" = some false by decide +kernel) (show kitB "str" "list" = some false by decide +kernel) Y.z_isinstance (pe_cls Y.z_tuple rfl) (pe_cls Y.z_list rfl) (pd_var 1 rfl))) (fun h => nomatch h) (fun _ => ?_)
      refine bd_guard (k := false) (td_val (pd_isi (x := .str t) (T := "bool") rfl (show kitB "str" "bool" = some false by decide +kernel) Y.z_isinstance (pe_cls Y.z_bool rfl) (pd_var 1 rfl))) (fun h => nomatch h) (fun _ => ?_)
      refine bd_guard (k := false) (td_val (pd_isi (x := .str t) (T := "int") rfl (show kitB "str" "int" = some false by decide +kernel) Y.z_isinstance (pe_cls Y.z_int rfl) (pd_var 1 rfl))) (fun h => nomatch h) (fun _ => ?_)
      exact bd_one (sd_ret (pd_and_t (pd_isi (x := .str t) (T := "str") rfl (show kitB "str" "str" = some true by decide +kernel) Y.z_isinstance (pe_cls Y.z_str rfl) (pd_var 0 rfl)) (pd_one (pd_eqS (pd_var 0 rfl) (pd_var 1 rfl)))) (by show PyData.bool (decide (t = t)) = .bool true; simp))
  | succ d ih =>
    refine fn_DD F sc__law_same (fun ds r h => by obtain ⟨_, rfl, _⟩ := h; rfl) (by decide) (fun cdv A outer s H E hr ds r h => ?_)
    obtain ⟨x, rfl, nx, rfl⟩ := h
    have C : Cal P w K mg base (d + 1) "_law_same" (spD K (SSame d)) [] := ⟨_, fd, _, [], ih, Y.g__law_same, F.kp, bb, .nil⟩
    refine bd_env (ρ' := [.d x, .d x, .un]) rfl ?_
    cases nx with
    | non =>
      refine bd_guard (k := true) (td_isN (x := .none) (pd_var 1 rfl)) (fun _ => ?_) (fun h => nomatch h)
      exact bd_one (sd_ret (pd_isN (x := .none) (pd_var 0 rfl)) rfl)
    | bl b =>
      refine bd_guard (k := false) (td_isN (x := .bool b) (pd_var 1 rfl)) (fun h => nomatch h) (fun _ => ?_)
      refine bd_guard (k := false || false) (td_val (pd_isi2 (x := .bool b) (T := "tuple") (U := "list") rfl (show kitB "bool" "tuple" = some false by decide +kernel) (show kitB "bool" "list" = some false by decide +kernel) Y.z_isinstance (pe_cls Y.z_tuple rfl) (pe_cls Y.z_list rfl) (pd_var 1 rfl))) (fun h => nomatch h) (fun _ => ?_)
      refine bd_guard (k := true) (td_val (pd_isi (x := .bool b) (T := "bool") rfl (show kitB "bool" "bool" = some true by decide +kernel) Y.z_isinstance (pe_cls Y.z_bool rfl) (pd_var 1 rfl))) (fun _ => ?_) (fun h => nomatch h)
      exact bd_one (sd_ret (pd_and_t (pd_isi (x := .bool b) (T := "bool") rfl (show kitB "bool" "bool" = some true by decide +kernel) Y.z_isinstance (pe_cls Y.z_bool rfl) (pd_var 0 rfl)) (pd_one (pd_eq hr.units rfl rfl (pd_var 0 rfl) (pd_var 1 rfl)))) (by show PyData.bool (PyData.eqv (.bool b) (.bool b)) = .bool true; simp [PyData.eqv]))
    | int i =>
      refine bd_guard (k := false) (td_isN (x := .int i) (pd_var 1 rfl)) (fun h => nomatch h) (fun _ => ?_)
      refine bd_guard (k := false || false) (td_val (pd_isi2 (x := .int i) (T := "tuple") (U := "list") rfl (show kitB "int" "tuple" = some false by decide +kernel) (show kitB "int" "list" = some false by decide +kernel) Y.z_isinstance (pe_cls Y.z_tuple rfl) (pe_cls Y.z_list rfl) (pd_var 1 rfl))) (fun h => nomatch h) (fun _ => ?_)
      refine bd_guard (k := false) (td_val (pd_isi (x := .int i) (T := "bool") rfl (show kitB "int" "bool" = some false by decide +kernel) Y.z_isinstance (pe_cls Y.z_bool rfl) (pd_var 1 rfl))) (fun h => nomatch h) (fun _ => ?_)
      refine bd_guard (k := true) (td_val (pd_isi (x := .int i) (T := "int") rfl (show kitB "int" "int" = some true by decide +kernel) Y.z_isinstance (pe_cls Y.z_int rfl) (pd_var 1 rfl))) (fun _ => ?_) (fun h => nomatch h)
      exact bd_one (sd_ret (pd_and_t (pd_isi (x := .int i) (T := "int") rfl (show kitB "int" "int" = some true by decide +kernel) Y.z_isinstance (pe_cls Y.z_int rfl) (pd_var 0 rfl)) (pd_and_t (pd_not (k := false) (pd_isi (x := .int i) (T := "bool") rfl (show kitB "int" "bool" = some false by decide +kernel) Y.z_isinstance (pe_cls Y.z_bool rfl) (pd_var 0 rfl))) (pd_one (pd_eqI (pd_var 0 rfl) (pd_var 1 rfl))))) (by show PyData.bool (decide (i = i)) = .bool true; simp))
    | str t =>
      refine bd_guard (k := false) (td_isN (x := .str t) (pd_var 1 rfl)) (fun h => nomatch h) (fun _ => ?_)
      refine bd_guard (k := false || false) (td_val (pd_isi2 (x := .str t) (T := "tuple") (U := "list") rfl (show kitB "str" "tuple" = some false by decide +kernel) (show kitB "str" "list" = some false by decide +kernel) Y.z_isinstance (pe_cls Y.z_tuple rfl) (pe_cls Y.z_list rfl) (pd_var 1 rfl))) (fun h => nomatch h) (fun _ => ?_)
      refine bd_guard (k := false) (td_val (pd_isi (x := .str t) (T := "bool") rfl (show kitB "str" "bool" = some false by decide +kernel) Y.z_isinstance (pe_cls Y.z_bool rfl) (pd_var 1 rfl))) (fun h => nomatch h) (fun _ => ?_)
      refine bd_guard (k := false) (td_val (pd_isi (x := .str t) (T := "int") rfl (show kitB "str" "int" = some false by decide +kernel) Y.z_isinstance (pe_cls Y.z_int rfl) (pd_var 1 rfl))) (fun h => nomatch h) (fun _ => ?_)
      exact bd_one (sd_ret (pd_and_t (pd_isi (x := .str t) (T := "str") rfl (show kitB "str" "str" = some true by decide +kernel) Y.z_isinstance (pe_cls Y.z_str rfl) (pd_var 0 rfl)) (pd_one (pd_eqS (pd_var 0 rfl) (pd_var 1 rfl)))) (by show PyData.bool (decide (t = t)) = .bool true; simp))
    | @lst _ xs hl hx =>
      refine bd_guard (k := false) (td_isN (x := .list xs) (pd_var 1 rfl)) (fun h => nomatch h) (fun _ => ?_)
      refine bd_guard_end (sd_if (k := false || true) (td_val (pd_isi2 (x := .list xs) (T := "tuple") (U := "list") rfl (show kitB "list" "tuple" = some false by decide +kernel) (show kitB "list" "list" = some true by decide +kernel) Y.z_isinstance (pe_cls Y.z_tuple rfl) (pe_cls Y.z_list rfl) (pd_var 1 rfl))) (fun _ => ?_) (fun h => nomatch h))
      refine bd_guard (k := false || false) (td_w (wd_or (td_ne hr.units rfl rfl (pd_isi (x := .list xs) (k := false) (T := "tuple") rfl (show kitB "list" "tuple" = some false by decide +kernel) Y.z_isinstance (pe_cls Y.z_tuple rfl) (pd_var 1 rfl)) (pd_isi (x := .list xs) (k := false) (T := "tuple") rfl (show kitB "list" "tuple" = some false by decide +kernel) Y.z_isinstance (pe_cls Y.z_tuple rfl) (pd_var 0 rfl))) fun _ => wd_or1 (td_ne hr.units rfl rfl (pd_isi (x := .list xs) (k := true) (T := "list") rfl (show kitB "list" "list" = some true by decide +kernel) Y.z_isinstance (pe_cls Y.z_list rfl) (pd_var 1 rfl)) (pd_isi (x := .list xs) (k := true) (T := "list") rfl (show kitB "list" "list" = some true by decide +kernel) Y.z_isinstance (pe_cls Y.z_list rfl) (pd_var 0 rfl))))) (fun h => nomatch h) (fun _ => ?_)
      refine bd_guard (k := !decide ((xs.length : Int) = (xs.length : Int))) (td_neI (pd_len (xs := xs) Y.z_len (pq_d (pd_var 0 rfl)) srcN) (pd_len (xs := xs) Y.z_len (pq_d (pd_var 1 rfl)) srcN)) (fun h => absurd h (by simp)) (fun _ => ?_)
      refine bd_cut (fun r => True) (sd_forF (List.range xs.length) (fun i : Nat => PyData.int (i : Int)) (fun _ : Unit => [.d (.list xs), .d (.list xs), .un]) (fun _ _ => ()) () (fun _ _ => True) (passes_of rfl) rfl (id_range0 (n := xs.length) Y.z_range (pd_len (xs := xs) Y.z_len (pq_d (pd_var 1 rfl)) srcN) (by omega)) (Le.refl _) trivial (fun _ => trivial) (fun i s a ha hs pv => ⟨_, gd_name 2 sc__law_same.nd, ?_⟩) (fun _ _ _ => trivial)) (fun r _ => bd_one (sd_ret pd_bl rfl))
      have hlt : a < xs.length := by
        have := List.mem_of_getElem? ha
        simpa using this
      refine bd_one (sd_if (k := !true) (td_not (td_val (pd_call C hr .nil (ad_cons (pd_ixL (i := (a : Int)) (xs := xs) (x := xs[a]) (atI_nat (List.getElem?_eq_getElem hlt)) srcN (pq_d (pd_var 0 rfl)) (pd_var 2 rfl)) (ad_cons (pd_ixL (i := (a : Int)) (xs := xs) (x := xs[a]) (atI_nat (List.getElem?_eq_getElem hlt)) srcN (pq_d (pd_var 1 rfl)) (pd_var 2 rfl)) ad_nil)) ⟨xs[a], rfl, hx _ (List.getElem_mem hlt), rfl⟩ (Nat.le_refl _)))) (fun h => nomatch h) (fun _ => bd_nil ⟨by repeat (first | exact Le.nil | apply Le.eq | apply Le.un), trivial⟩))
    | @tup _ xs hl hx =>
      refine bd_guard (k := false) (td_isN (x := .tuple xs) (pd_var 1 rfl)) (fun h => nomatch h) (fun _ => ?_)
      refine bd_guard_end (sd_if (k := true || false) (td_val (pd_isi2 (x := .tuple xs) (T := "tuple") (U := "list") rfl (show kitB "tuple" "tuple" = some true by decide +kernel) (show kitB "tuple" "list" = some false by decide +kernel) Y.z_isinstance (pe_cls Y.z_tuple rfl) (pe_cls Y.z_list rfl) (pd_var 1 rfl))) (fun _ => ?_) (fun h => nomatch h))
      refine bd_guard (k := false || false) (td_w (wd_or (td_ne hr.units rfl rfl (pd_isi (x := .tuple xs) (k := true) (T := "tuple") rfl (show kitB "tuple" "tuple" = some true by decide +kernel) Y.z_isinstance (pe_cls Y.z_tuple rfl) (pd_var 1 rfl)) (pd_isi (x := .tuple xs) (k := true) (T := "tuple") rfl (show kitB "tuple" "tuple" = some true by decide +kernel) Y.z_isinstance (pe_cls Y.z_tuple rfl) (pd_var 0 rfl))) fun _ => wd_or1 (td_ne hr.units rfl rfl (pd_isi (x := .tuple xs) (k := false) (T := "list") rfl (show kitB "tuple" "list" = some false by decide +kernel) Y.z_isinstance (pe_cls Y.z_list rfl) (pd_var 1 rfl)) (pd_isi (x := .tuple xs) (k := false) (T := "list") rfl (show kitB "tuple" "list" = some false by decide +kernel) Y.z_isinstance (pe_cls Y.z_list rfl) (pd_var 0 rfl))))) (fun h => nomatch h) (fun _ => ?_)
      refine bd_guard (k := !decide ((xs.length : Int) = (xs.length : Int))) (td_neI (pd_lenT (xs := xs) Y.z_len (pd_var 0 rfl)) (pd_lenT (xs := xs) Y.z_len (pd_var 1 rfl))) (fun h => absurd h (by simp)) (fun _ => ?_)
      refine bd_cut (fun r => True) (sd_forF (List.range xs.length) (fun i : Nat => PyData.int (i : Int)) (fun _ : Unit => [.d (.tuple xs), .d (.tuple xs), .un]) (fun _ _ => ()) () (fun _ _ => True) (passes_of rfl) rfl (id_range0 (n := xs.length) Y.z_range (pd_lenT (xs := xs) Y.z_len (pd_var 1 rfl)) (by omega)) (Le.refl _) trivial (fun _ => trivial) (fun i s a ha hs pv => ⟨_, gd_name 2 sc__law_same.nd, ?_⟩) (fun _ _ _ => trivial)) (fun r _ => bd_one (sd_ret pd_bl rfl))
      have hlt : a < xs.length := by
        have := List.mem_of_getElem? ha
        simpa using this
      refine bd_one (sd_if (k := !true) (td_not (td_val (pd_call C hr .nil (ad_cons (pd_ixT (i := (a : Int)) (xs := xs) (x := xs[a]) (atI_nat (List.getElem?_eq_getElem hlt)) (pd_var 0 rfl) (pd_var 2 rfl)) (ad_cons (pd_ixT (i := (a : Int)) (xs := xs) (x := xs[a]) (atI_nat (List.getElem?_eq_getElem hlt)) (pd_var 1 rfl) (pd_var 2 rfl)) ad_nil)) ⟨xs[a], rfl, hx _ (List.getElem_mem hlt), rfl⟩ (Nat.le_refl _)))) (fun h => nomatch h) (fun _ => bd_nil ⟨by repeat (first | exact Le.nil | apply Le.eq | apply Le.un), trivial⟩))
end
end GP

namespace GP
open PySem PySem.Spec PyProof.Rows L2 G
section
variable {P : Program} {w : World} {K : PySem.W.Frag} {mg : Str → Option Value} {base : Heap}

def S_is_number (ds : List PyData) (r : Res) : Prop := ∃ (d : PyData) (l m : Int), ds = [d, .int l, .int m] ∧ isDct d = false ∧ r = .ret (.bool (isNum d l m))
theorem f_is_number (Y : Py K mg) {fd : FuncData} (F : FunD K "is_number" "is_number" (defArgs s_is_number) (defBody s_is_number) (defScope s_is_number) [.int 0, .int 1000000] [] (He.ga K "is_number") fd) : FnOk P w K mg base (L2.CX P w) 1 (He.ga K "is_number") fd [("value" : Str), ("least" : Str), ("most" : Str)] (spD K S_is_number) := by
  refine fn_DD F sc_is_number (fun ds r h => by obtain ⟨_, _, _, rfl, _⟩ := h; rfl) (by decide) (fun cdv A outer s H E hr ds r h => ?_)
  obtain ⟨d, l, m, rfl, nd, rfl⟩ := h
  refine bd_env (ρ' := [.d d, .d (PyData.int l), .d (PyData.int m)]) rfl ?_
  cases d with
  | dict _ => cases nd
  | bool b => exact bd_guard (k := true) (td_w (wd_or_t (td_val (pd_isi (x := .bool b) (T := "bool") (k := true) rfl (show kitB "bool" "bool" = some true by decide +kernel) Y.z_isinstance (pe_cls Y.z_bool rfl) (pd_var 0 rfl))))) (fun _ => bd_one (sd_ret pd_bl rfl)) (fun h => nomatch h)
  | none => exact bd_guard (k := false || !false) (td_w (wd_or (td_val (pd_isi (x := .none) (T := "bool") (k := false) rfl (show kitB "NoneType" "bool" = some false by decide +kernel) Y.z_isinstance (pe_cls Y.z_bool rfl) (pd_var 0 rfl))) (fun _ => wd_or1 (td_not (td_val (pd_isi (x := .none) (T := "int") (k := false) rfl (show kitB "NoneType" "int" = some false by decide +kernel) Y.z_isinstance (pe_cls Y.z_int rfl) (pd_var 0 rfl))))))) (fun _ => bd_one (sd_ret pd_bl rfl)) (fun h => nomatch h)
  | str t => exact bd_guard (k := false || !false) (td_w (wd_or (td_val (pd_isi (x := .str t) (T := "bool") (k := false) rfl (show kitB "str" "bool" = some false by decide +kernel) Y.z_isinstance (pe_cls Y.z_bool rfl) (pd_var 0 rfl))) (fun _ => wd_or1 (td_not (td_val (pd_isi (x := .str t) (T := "int") (k := false) rfl (show kitB "str" "int" = some false by decide +kernel) Y.z_isinstance (pe_cls Y.z_int rfl) (pd_var 0 rfl))))))) (fun _ => bd_one (sd_ret pd_bl rfl)) (fun h => nomatch h)
  | list t => exact bd_guard (k := false || !false) (td_w (wd_or (td_val (pd_isi (x := .list t) (T := "bool") (k := false) rfl (show kitB "list" "bool" = some false by decide +kernel) Y.z_isinstance (pe_cls Y.z_bool rfl) (pd_var 0 rfl))) (fun _ => wd_or1 (td_not (td_val (pd_isi (x := .list t) (T := "int") (k := false) rfl (show kitB "list" "int" = some false by decide +kernel) Y.z_isinstance (pe_cls Y.z_int rfl) (pd_var 0 rfl))))))) (fun _ => bd_one (sd_ret pd_bl rfl)) (fun h => nomatch h)
  | tuple t => exact bd_guard (k := false || !false) (td_w (wd_or (td_val (pd_isi (x := .tuple t) (T := "bool") (k := false) rfl (show kitB "tuple" "bool" = some false by decide +kernel) Y.z_isinstance (pe_cls Y.z_bool rfl) (pd_var 0 rfl))) (fun _ => wd_or1 (td_not (td_val (pd_isi (x := .tuple t) (T := "int") (k := false) rfl (show kitB "tuple" "int" = some false by decide +kernel) Y.z_isinstance (pe_cls Y.z_int rfl) (pd_var 0 rfl))))))) (fun _ => bd_one (sd_ret pd_bl rfl)) (fun h => nomatch h)
  | int i =>
    refine bd_guard (k := false || !true) (td_w (wd_or (td_val (pd_isi (x := .int i) (T := "bool") (k := false) rfl (show kitB "int" "bool" = some false by decide +kernel) Y.z_isinstance (pe_cls Y.z_bool rfl) (pd_var 0 rfl))) (fun _ => wd_or1 (td_not (td_val (pd_isi (x := .int i) (T := "int") (k := true) rfl (show kitB "int" "int" = some true by decide +kernel) Y.z_isinstance (pe_cls Y.z_int rfl) (pd_var 0 rfl))))))) (fun h => nomatch h) (fun _ => ?_)
    exact bd_one (sd_ret (x := .bool (decide (l ≤ i) && decide (i ≤ m))) (pd_chain (f := fun i j => decide (i ≤ j)) (g := fun i j => decide (i ≤ j)) (i := l) (j := i) (l := m) rfl rfl (pd_var 1 rfl) (pd_var 0 rfl) (fun _ => (pd_var 2 rfl))) rfl)
theorem c_is_number_3 (Y : Py K mg) : Cal P w K mg base 1 "is_number" (spD K S_is_number) [] := by
  obtain ⟨fd, F⟩ := Y.d_is_number
  obtain ⟨ds, v, b⟩ := F.binds1 (ps := [("value" : Str), ("least" : Str), ("most" : Str)]) 3 2 (by simp) rfl fun _ _ _ _ _ _ _ us its h1 h2 => match us, its, h1, h2 with | [_, _, _], [_, _], _, _ => ⟨_, rfl, rfl⟩
  exact ⟨_, fd, _, ds, f_is_number Y F, Y.g_is_number, F.kp, b, v⟩
theorem c_is_number_2 (Y : Py K mg) : Cal P w K mg base 1 "is_number" (spD K S_is_number) [.int 1000000] := by
  obtain ⟨fd, F⟩ := Y.d_is_number
  obtain ⟨ds, v, b⟩ := F.binds1 (ps := [("value" : Str), ("least" : Str), ("most" : Str)]) 2 1 (by simp) rfl fun _ _ _ _ _ _ _ us its h1 h2 => match us, its, h1, h2 with | [_, _], [_, _], _, _ => ⟨_, rfl, rfl⟩
  exact ⟨_, fd, _, ds, f_is_number Y F, Y.g_is_number, F.kp, b, v⟩
theorem c_is_number_1 (Y : Py K mg) : Cal P w K mg base 1 "is_number" (spD K S_is_number) [.int 0, .int 1000000] := by
  obtain ⟨fd, F⟩ := Y.d_is_number
  obtain ⟨ds, v, b⟩ := F.binds1 (ps := [("value" : Str), ("least" : Str), ("most" : Str)]) 1 0 (by simp) rfl fun _ _ _ _ _ _ _ us its h1 h2 => match us, its, h1, h2 with | [_], [_, _], _, _ => ⟨_, rfl, rfl⟩
  exact ⟨_, fd, _, ds, f_is_number Y F, Y.g_is_number, F.kp, b, v⟩

def chkRes (K : PySem.W.Frag) (d : PyData) (l m : Int) : Res := if isNum d l m = true then .ret d else .exc (.ref (He.ga K "InvalidNumber")) []
def S_checked_number (K : PySem.W.Frag) (ds : List PyData) (r : Res) : Prop := ∃ (d : PyData) (l m : Int), ds = [d, .int l, .int m] ∧ (isDct d = false ∧ Sml l ∧ Sml m) ∧ r = chkRes K d l m
theorem f_checked_number (Y : Py K mg) {fd : FuncData} (F : FunD K "checked_number" "checked_number" (defArgs s_checked_number) (defBody s_checked_number) (defScope s_checked_number) [.int 0, .int 1000000] [] (He.ga K "checked_number") fd) : FnOk P w K mg base (L2.CX P w) 2 (He.ga K "checked_number") fd [("value" : Str), ("least" : Str), ("most" : Str)] (spD K (S_checked_number K)) := by
  refine fn_DD F sc_checked_number (fun ds r h => by obtain ⟨_, _, _, rfl, _⟩ := h; rfl) (by decide) (fun cdv A outer s H E hr ds r h => ?_)
  obtain ⟨d, l, m, rfl, ⟨nd, sl, sm⟩, rfl⟩ := h
  refine bd_env (ρ' := [.d d, .d (PyData.int l), .d (PyData.int m)]) rfl ?_
  unfold chkRes
  refine bd_guard (k := !isNum d l m) (td_not (td_val (pd_call (c_is_number_3 Y) hr .nil (ad_cons (pd_var 0 rfl) (ad_cons (pd_var 1 rfl) (ad_cons (pd_var 2 rfl) ad_nil))) ⟨d, l, m, rfl, nd, rfl⟩))) (fun hk => ?_) (fun hk => ?_)
  · rw [if_neg (by simpa using hk)]
    refine bd_one (sd_raise1 rfl (takes_of rfl rfl rfl rfl) Y.x_InvalidNumber (pd_addS ?a1 (pd_addS ?a2 (pd_addS ?a3 pd_str (pd_strI sl.2 Y.z_str (pd_var 1 rfl))) pd_str) (pd_strI sm.2 Y.z_str (pd_var 2 rfl))) ⟨rfl, rfl⟩)
    all_goals (have h1 := sl.1; have h2 := sm.1; have hz : (100000 : Nat) ≤ sizeLine := by decide)
    case a3 =>
      have h3 : ("no number from " : Str).length = 15 := by decide
      omega
    case a2 =>
      rw [strlen_add]
      have h3 : ("no number from " : Str).length = 15 := by decide
      have h4 : (" to " : Str).length = 4 := by decide
      omega
    case a1 =>
      rw [strlen_add, strlen_add]
      have h3 : ("no number from " : Str).length = 15 := by decide
      have h4 : (" to " : Str).length = 4 := by decide
      omega
  · rw [if_pos (by simpa using hk)]
    exact bd_one (sd_ret (pd_var 0 rfl) rfl)
theorem chk_ok {x l m : Int} (h : l ≤ x ∧ x ≤ m) : Res.ret (.int x) = chkRes K (.int x) l m := by
  unfold chkRes
  rw [if_pos]
  simp [isNum, h.1, h.2]
theorem chk_bad {d : PyData} {l m : Int} (h : isNum d l m = false) : Res.exc (.ref (He.ga K "InvalidNumber")) [] = chkRes K d l m := by
  unfold chkRes
  rw [if_neg]
  rw [h]; exact Bool.false_ne_true
theorem chk_yes {d : PyData} {l m : Int} (h : isNum d l m = true) : Res.ret d = chkRes K d l m := by
  unfold chkRes
  rw [if_pos h]
theorem c_checked_number_3 (Y : Py K mg) : Cal P w K mg base 2 "checked_number" (spD K (S_checked_number K)) [] := by
  obtain ⟨fd, F⟩ := Y.d_checked_number
  obtain ⟨ds, v, b⟩ := F.binds1 (ps := [("value" : Str), ("least" : Str), ("most" : Str)]) 3 2 (by simp) rfl fun _ _ _ _ _ _ _ us its h1 h2 => match us, its, h1, h2 with | [_, _, _], [_, _], _, _ => ⟨_, rfl, rfl⟩
  exact ⟨_, fd, _, ds, f_checked_number Y F, Y.g_checked_number, F.kp, b, v⟩
theorem c_checked_number_2 (Y : Py K mg) : Cal P w K mg base 2 "checked_number" (spD K (S_checked_number K)) [.int 1000000] := by
  obtain ⟨fd, F⟩ := Y.d_checked_number
  obtain ⟨ds, v, b⟩ := F.binds1 (ps := [("value" : Str), ("least" : Str), ("most" : Str)]) 2 1 (by simp) rfl fun _ _ _ _ _ _ _ us its h1 h2 => match us, its, h1, h2 with | [_, _], [_, _], _, _ => ⟨_, rfl, rfl⟩
  exact ⟨_, fd, _, ds, f_checked_number Y F, Y.g_checked_number, F.kp, b, v⟩
theorem c_checked_number_1 (Y : Py K mg) : Cal P w K mg base 2 "checked_number" (spD K (S_checked_number K)) [.int 0, .int 1000000] := by
  obtain ⟨fd, F⟩ := Y.d_checked_number
  obtain ⟨ds, v, b⟩ := F.binds1 (ps := [("value" : Str), ("least" : Str), ("most" : Str)]) 1 0 (by simp) rfl fun _ _ _ _ _ _ _ us its h1 h2 => match us, its, h1, h2 with | [_], [_, _], _, _ => ⟨_, rfl, rfl⟩
  exact ⟨_, fd, _, ds, f_checked_number Y F, Y.g_checked_number, F.kp, b, v⟩
end
end GP

namespace GP
open PySem PySem.Spec PyProof.Rows L2 G
section
variable {P : Program} {w : World} {K : PySem.W.Frag} {mg : Str → Option Value} {base : Heap}


theorem gone_bd {a r : Int} (h : 0 ≤ a) (h0 : 0 ≤ r) (h1 : r ≤ 1000) : 0 ≤ (a * r + 999) / 1000 ∧ (a * r + 999) / 1000 ≤ a := by
  have h2 : 0 ≤ a * r := Int.mul_nonneg h h0
  have h3 : a * r ≤ a * 1000 := Int.mul_le_mul_of_nonneg_left h1 h
  omega
theorem gone2 (a r : Int) : (if decide (a * r / 1000 * 1000 < a * r) = true then a * r / 1000 + 1 else a * r / 1000) = (a * r + 999) / 1000 := by
  generalize a * r = v
  by_cases h : v / 1000 * 1000 < v
  · rw [if_pos (decide_eq_true h)]; omega
  · rw [if_neg (by simpa using h)]; omega

def m_left (amount_ : Int) (rate_ : Int) (days_ : Int) : Int :=
  ((List.range (days_).toNat).foldl (fun (s1 : Int) (a2 : Nat) => (let amount_5 : Int := (s1 - (((s1 * rate_) + 999) / 1000)); amount_5)) amount_)
def S_left (K : PySem.W.Frag) (ds : List PyData) (r : Res) : Prop := (∃ (amount_ : Int) (rate_ : Int) (days_ : Int), ds = [(PyData.int amount_), (PyData.int rate_), (PyData.int days_)] ∧ ((0 ≤ amount_ ∧ amount_ ≤ 1000000) ∧ (0 ≤ rate_ ∧ rate_ ≤ 1000) ∧ (0 ≤ days_ ∧ days_ ≤ 1000)) ∧ r = .ret (PyData.int (m_left amount_ rate_ days_))) ∨ (∃ (amount_ : PyData) (rate_ : PyData) (days_ : PyData), ds = [amount_, rate_, days_] ∧ (isDct amount_ = false ∧ isDct rate_ = false ∧ isDct days_ = false) ∧ (isNum amount_ 0 1000000 && isNum rate_ 0 1000 && isNum days_ 0 1000) = false ∧ r = .exc (.ref (He.ga K "InvalidNumber")) [])
theorem f_left (Y : Py K mg) {fd : FuncData} (F : FunD K "left" "left" (defArgs s_left) (defBody s_left) (defScope s_left) [] [] (He.ga K "left") fd) : FnOk P w K mg base (L2.CX P w) 3 (He.ga K "left") fd [("amount" : Str), ("rate" : Str), ("days" : Str)] (spD K (S_left K)) := by
  refine fn_DD F sc_left (fun ds r h => by rcases h with ⟨_, _, _, rfl, _⟩ | ⟨_, _, _, rfl, _⟩ <;> rfl) (by decide) (fun cdv A outer s H E hr ds r h => ?_)
  rcases h with ⟨amount_, rate_, days_, rfl, pre, rfl⟩ | ⟨amount_, rate_, days_, rfl, nd, hbad, rfl⟩
  case inr =>
    refine bd_env (ρ' := [.d amount_, .d rate_, .d days_, .un]) rfl ?_
    have nd_0 : isDct amount_ = false := nd.1
    have nd_1 : isDct rate_ = false := nd.2.1
    have nd_2 : isDct days_ = false := nd.2.2
    by_cases hc0 : isNum amount_ 0 1000000 = true
    case neg => exact bd_guard_end (sd_exprX (px_call (takes_of rfl rfl rfl rfl) (c_checked_number_1 Y) hr (.int (.int .nil)) (ad_cons (pd_var 0 rfl) ad_nil) ⟨amount_, 0, 1000000, rfl, ⟨nd_0, by decide, by decide⟩, chk_bad (by simpa using hc0)⟩) ⟨rfl, rfl⟩)
    refine bd_seq (sd_expr (pd_call (c_checked_number_1 Y) hr (.int (.int .nil)) (ad_cons (pd_var 0 rfl) ad_nil) ⟨amount_, 0, 1000000, rfl, ⟨nd_0, by decide, by decide⟩, chk_yes hc0⟩) rfl) ?_
    by_cases hc1 : isNum rate_ 0 1000 = true
    case neg => exact bd_guard_end (sd_exprX (px_call (takes_of rfl rfl rfl rfl) (c_checked_number_3 Y) hr .nil (ad_cons (pd_var 1 rfl) (ad_cons pd_int (ad_cons pd_int ad_nil))) ⟨rate_, 0, 1000, rfl, ⟨nd_1, by decide, by decide⟩, chk_bad (by simpa using hc1)⟩) ⟨rfl, rfl⟩)
    refine bd_seq (sd_expr (pd_call (c_checked_number_3 Y) hr .nil (ad_cons (pd_var 1 rfl) (ad_cons pd_int (ad_cons pd_int ad_nil))) ⟨rate_, 0, 1000, rfl, ⟨nd_1, by decide, by decide⟩, chk_yes hc1⟩) rfl) ?_
    by_cases hc2 : isNum days_ 0 1000 = true
    case neg => exact bd_guard_end (sd_exprX (px_call (takes_of rfl rfl rfl rfl) (c_checked_number_3 Y) hr .nil (ad_cons (pd_var 2 rfl) (ad_cons pd_int (ad_cons (pd_gint (Y.i_DAYS).choose_spec) ad_nil))) ⟨days_, 0, 1000, rfl, ⟨nd_2, by decide, by decide⟩, chk_bad (by simpa using hc2)⟩) ⟨rfl, rfl⟩)
    refine bd_seq (sd_expr (pd_call (c_checked_number_3 Y) hr .nil (ad_cons (pd_var 2 rfl) (ad_cons pd_int (ad_cons (pd_gint (Y.i_DAYS).choose_spec) ad_nil))) ⟨days_, 0, 1000, rfl, ⟨nd_2, by decide, by decide⟩, chk_yes hc2⟩) rfl) ?_
    exfalso
    simp_all
  refine bd_env (ρ' := [.d (PyData.int amount_), .d (PyData.int rate_), .d (PyData.int days_), .un]) rfl ?_
  refine bd_seq (sd_expr (pd_call (c_checked_number_1 Y) hr (.int (.int .nil)) (ad_cons (pd_var 0 rfl) ad_nil) ⟨(PyData.int amount_), 0, 1000000, rfl, ⟨rfl, (/- side 0 -/ by first | exact sml_of (by omega) (by omega) | decide), (/- side 1 -/ by first | exact sml_of (by omega) (by omega) | decide)⟩, chk_ok (/- side 2 -/ by omega)⟩) rfl) ?_
  refine bd_seq (sd_expr (pd_call (c_checked_number_3 Y) hr .nil (ad_cons (pd_var 1 rfl) (ad_cons pd_int (ad_cons pd_int ad_nil))) ⟨(PyData.int rate_), 0, 1000, rfl, ⟨rfl, (/- side 3 -/ by first | exact sml_of (by omega) (by omega) | decide), (/- side 4 -/ by first | exact sml_of (by omega) (by omega) | decide)⟩, chk_ok (/- side 5 -/ by omega)⟩) rfl) ?_
  refine bd_seq (sd_expr (pd_call (c_checked_number_3 Y) hr .nil (ad_cons (pd_var 2 rfl) (ad_cons pd_int (ad_cons (pd_gint (Y.i_DAYS).choose_spec) ad_nil))) ⟨(PyData.int days_), 0, 1000, rfl, ⟨rfl, (/- side 6 -/ by first | exact sml_of (by omega) (by omega) | decide), (/- side 7 -/ by first | exact sml_of (by omega) (by omega) | decide)⟩, chk_ok (/- side 8 -/ by omega)⟩) rfl) ?_
  refine bd_cut (fun r => ∃ s1 : Int, s1 = (List.range (days_).toNat).foldl (fun (s1 : Int) (a2 : Nat) => (let amount_5 : Int := (s1 - (((s1 * rate_) + 999) / 1000)); amount_5)) amount_ ∧ Le [.d (PyData.int s1), .d (PyData.int rate_), .d (PyData.int days_), .un] r ∧ (fun (i3 : Nat) (s1 : Int) => 0 ≤ s1 ∧ s1 ≤ 1000000) (List.range (days_).toNat).length s1) (sd_forF (List.range (days_).toNat) (fun i : Nat => PyData.int (i : Int)) (fun s1 : Int => [.d (PyData.int s1), .d (PyData.int rate_), .d (PyData.int days_), .un]) (fun (s1 : Int) (a2 : Nat) => (let amount_5 : Int := (s1 - (((s1 * rate_) + 999) / 1000)); amount_5)) amount_ (fun (i3 : Nat) (s1 : Int) => 0 ≤ s1 ∧ s1 ≤ 1000000) (passes_of rfl) rfl (id_rangeI Y.z_range (pd_var 2 rfl) (/- side 9 -/ by omega) (/- side 10 -/ by omega)) (by repeat (first | exact Le.nil | apply Le.eq | apply Le.un)) (by omega) (fun _ => trivial) (fun i3 s1 a2 ha hs6 pv => ⟨_, (gd_name 3 sc_left.nd), ?_⟩) (fun s1 hs6 pv => ⟨_, hs6, Le.refl _, pv⟩)) ?_
  · try dsimp only at pv
    have hgone : 0 ≤ (s1 * rate_ + 999) / 1000 ∧ (s1 * rate_ + 999) / 1000 ≤ s1 := gone_bd pv.1 pre.2.1.1 pre.2.1.2
    refine bd_env (ρ' := [.d (PyData.int s1), .d (PyData.int rate_), .d (PyData.int days_), .d (PyData.int (a2 : Int))]) rfl ?_
    refine bd_seq (sd_set 0 (pd_sub (pd_var 0 rfl) (pd_fdiv (/- side 12 -/ by first | exact ⟨by omega, by omega⟩) (pd_add (pd_mul (/- side 11 -/ by first | exact .inl (by omega) | exact .inr (by omega)) (pd_var 0 rfl) (pd_var 1 rfl)) pd_int) pd_int)) rfl sc_left.nd) ?_
    refine bd_env (ρ' := [.d (PyData.int (s1 - (((s1 * rate_) + 999) / 1000))), .d (PyData.int rate_), .d (PyData.int days_), .d (PyData.int (a2 : Int))]) rfl ?_
    generalize hamount_5 : ((s1 - (((s1 * rate_) + 999) / 1000)) : Int) = amount_5
    refine bd_nil ⟨(by subst_vars; (try simp only [if_true, if_false, Bool.false_eq_true, ↓reduceIte]); repeat (first | exact Le.nil | apply Le.eq | apply Le.un)), (by first | trivial | omega | (dsimp only; omega) | assumption)⟩
  rintro r ⟨s1, hs6, hle, pv⟩
  refine bd_le hle ?_
  clear hle
  try dsimp only at pv
  subst hs6
  exact bd_one (sd_ret (x := (PyData.int ((List.range (days_).toNat).foldl (fun (s1 : Int) (a2 : Nat) => (let amount_5 : Int := (s1 - (((s1 * rate_) + 999) / 1000)); amount_5)) amount_))) (pd_var 0 rfl) (by subst_vars; first | rfl | (simp only [m_left, if_true, if_false, Bool.false_eq_true, ↓reduceIte]; done) | (simp only [m_left, if_true, if_false, Bool.false_eq_true, ↓reduceIte]; rfl)))
theorem c_left (Y : Py K mg) : Cal P w K mg base 3 "left" (spD K (S_left K)) [] := by
  obtain ⟨fd, F⟩ := Y.d_left
  exact ⟨_, fd, _, [], f_left Y F, Y.g_left, F.kp, F.bindsN (ps := [("amount" : Str), ("rate" : Str), ("days" : Str)]) fun _ _ _ _ _ _ us hl => match us, hl with | [_, _, _], _ => rfl, .nil⟩
def m_dried (amount_ : Int) (wet_ : Int) (aim_ : Int) : Int :=
  (if (decide (wet_ ≤ aim_)) = true then amount_ else ((amount_ * (1000 - wet_)) / (1000 - aim_)))
def S_dried (K : PySem.W.Frag) (ds : List PyData) (r : Res) : Prop := (∃ (amount_ : Int) (wet_ : Int) (aim_ : Int), ds = [(PyData.int amount_), (PyData.int wet_), (PyData.int aim_)] ∧ ((0 ≤ amount_ ∧ amount_ ≤ 1000000) ∧ (0 ≤ wet_ ∧ wet_ ≤ 1000) ∧ (0 ≤ aim_ ∧ aim_ ≤ 1000)) ∧ r = .ret (PyData.int (m_dried amount_ wet_ aim_))) ∨ (∃ (amount_ : PyData) (wet_ : PyData) (aim_ : PyData), ds = [amount_, wet_, aim_] ∧ (isDct amount_ = false ∧ isDct wet_ = false ∧ isDct aim_ = false) ∧ (isNum amount_ 0 1000000 && isNum wet_ 0 1000 && isNum aim_ 0 1000) = false ∧ r = .exc (.ref (He.ga K "InvalidNumber")) [])
theorem f_dried (Y : Py K mg) {fd : FuncData} (F : FunD K "dried" "dried" (defArgs s_dried) (defBody s_dried) (defScope s_dried) [] [] (He.ga K "dried") fd) : FnOk P w K mg base (L2.CX P w) 3 (He.ga K "dried") fd [("amount" : Str), ("wet" : Str), ("aim" : Str)] (spD K (S_dried K)) := by
  refine fn_DD F sc_dried (fun ds r h => by rcases h with ⟨_, _, _, rfl, _⟩ | ⟨_, _, _, rfl, _⟩ <;> rfl) (by decide) (fun cdv A outer s H E hr ds r h => ?_)
  rcases h with ⟨amount_, wet_, aim_, rfl, pre, rfl⟩ | ⟨amount_, wet_, aim_, rfl, nd, hbad, rfl⟩
  case inr =>
    refine bd_env (ρ' := [.d amount_, .d wet_, .d aim_]) rfl ?_
    have nd_0 : isDct amount_ = false := nd.1
    have nd_1 : isDct wet_ = false := nd.2.1
    have nd_2 : isDct aim_ = false := nd.2.2
    by_cases hc0 : isNum amount_ 0 1000000 = true
    case neg => exact bd_guard_end (sd_exprX (px_call (takes_of rfl rfl rfl rfl) (c_checked_number_1 Y) hr (.int (.int .nil)) (ad_cons (pd_var 0 rfl) ad_nil) ⟨amount_, 0, 1000000, rfl, ⟨nd_0, by decide, by decide⟩, chk_bad (by simpa using hc0)⟩) ⟨rfl, rfl⟩)
    refine bd_seq (sd_expr (pd_call (c_checked_number_1 Y) hr (.int (.int .nil)) (ad_cons (pd_var 0 rfl) ad_nil) ⟨amount_, 0, 1000000, rfl, ⟨nd_0, by decide, by decide⟩, chk_yes hc0⟩) rfl) ?_
    by_cases hc1 : isNum wet_ 0 1000 = true
    case neg => exact bd_guard_end (sd_exprX (px_call (takes_of rfl rfl rfl rfl) (c_checked_number_3 Y) hr .nil (ad_cons (pd_var 1 rfl) (ad_cons pd_int (ad_cons pd_int ad_nil))) ⟨wet_, 0, 1000, rfl, ⟨nd_1, by decide, by decide⟩, chk_bad (by simpa using hc1)⟩) ⟨rfl, rfl⟩)
    refine bd_seq (sd_expr (pd_call (c_checked_number_3 Y) hr .nil (ad_cons (pd_var 1 rfl) (ad_cons pd_int (ad_cons pd_int ad_nil))) ⟨wet_, 0, 1000, rfl, ⟨nd_1, by decide, by decide⟩, chk_yes hc1⟩) rfl) ?_
    by_cases hc2 : isNum aim_ 0 1000 = true
    case neg => exact bd_guard_end (sd_exprX (px_call (takes_of rfl rfl rfl rfl) (c_checked_number_3 Y) hr .nil (ad_cons (pd_var 2 rfl) (ad_cons pd_int (ad_cons pd_int ad_nil))) ⟨aim_, 0, 1000, rfl, ⟨nd_2, by decide, by decide⟩, chk_bad (by simpa using hc2)⟩) ⟨rfl, rfl⟩)
    refine bd_seq (sd_expr (pd_call (c_checked_number_3 Y) hr .nil (ad_cons (pd_var 2 rfl) (ad_cons pd_int (ad_cons pd_int ad_nil))) ⟨aim_, 0, 1000, rfl, ⟨nd_2, by decide, by decide⟩, chk_yes hc2⟩) rfl) ?_
    exfalso
    simp_all
  refine bd_env (ρ' := [.d (PyData.int amount_), .d (PyData.int wet_), .d (PyData.int aim_)]) rfl ?_
  refine bd_seq (sd_expr (pd_call (c_checked_number_1 Y) hr (.int (.int .nil)) (ad_cons (pd_var 0 rfl) ad_nil) ⟨(PyData.int amount_), 0, 1000000, rfl, ⟨rfl, (/- side 0 -/ by first | exact sml_of (by omega) (by omega) | decide), (/- side 1 -/ by first | exact sml_of (by omega) (by omega) | decide)⟩, chk_ok (/- side 2 -/ by omega)⟩) rfl) ?_
  refine bd_seq (sd_expr (pd_call (c_checked_number_3 Y) hr .nil (ad_cons (pd_var 1 rfl) (ad_cons pd_int (ad_cons pd_int ad_nil))) ⟨(PyData.int wet_), 0, 1000, rfl, ⟨rfl, (/- side 3 -/ by first | exact sml_of (by omega) (by omega) | decide), (/- side 4 -/ by first | exact sml_of (by omega) (by omega) | decide)⟩, chk_ok (/- side 5 -/ by omega)⟩) rfl) ?_
  refine bd_seq (sd_expr (pd_call (c_checked_number_3 Y) hr .nil (ad_cons (pd_var 2 rfl) (ad_cons pd_int (ad_cons pd_int ad_nil))) ⟨(PyData.int aim_), 0, 1000, rfl, ⟨rfl, (/- side 6 -/ by first | exact sml_of (by omega) (by omega) | decide), (/- side 7 -/ by first | exact sml_of (by omega) (by omega) | decide)⟩, chk_ok (/- side 8 -/ by omega)⟩) rfl) ?_
  -- hk7: if wet <= aim
  refine bd_guard (k := (decide (wet_ ≤ aim_))) (td_le (pd_var 1 rfl) (pd_var 2 rfl)) (fun hk7 => ?_) (fun hk7 => ?_)
  · skip
    have hk7f := hk7; try simp only [decide_eq_true_eq, decide_eq_false_iff_not, Bool.and_eq_true, Bool.or_eq_true, Bool.not_eq_true', Bool.not_eq_false', Bool.and_eq_false_iff, Bool.or_eq_false_iff, Bool.not_true, Bool.not_false, List.isEmpty_iff] at hk7f
    exact bd_one (sd_ret (x := (PyData.int amount_)) (pd_var 0 rfl) (by subst_vars; first | rfl | (simp only [m_dried, hk7, if_true, if_false, Bool.false_eq_true, ↓reduceIte]; done) | (simp only [m_dried, hk7, if_true, if_false, Bool.false_eq_true, ↓reduceIte]; rfl)))
  · skip
    have hk7f := hk7; try simp only [decide_eq_true_eq, decide_eq_false_iff_not, Bool.and_eq_true, Bool.or_eq_true, Bool.not_eq_true', Bool.not_eq_false', Bool.and_eq_false_iff, Bool.or_eq_false_iff, Bool.not_true, Bool.not_false, List.isEmpty_iff] at hk7f
    exact bd_one (sd_ret (x := (PyData.int ((amount_ * (1000 - wet_)) / (1000 - aim_)))) (pd_fdiv (/- side 10 -/ by first | exact ⟨by omega, by omega⟩) (pd_mul (/- side 9 -/ by first | exact .inl (by omega) | exact .inr (by omega)) (pd_var 0 rfl) (pd_sub pd_int (pd_var 1 rfl))) (pd_sub pd_int (pd_var 2 rfl))) (by subst_vars; first | rfl | (simp only [m_dried, hk7, if_true, if_false, Bool.false_eq_true, ↓reduceIte]; done) | (simp only [m_dried, hk7, if_true, if_false, Bool.false_eq_true, ↓reduceIte]; rfl)))
theorem c_dried (Y : Py K mg) : Cal P w K mg base 3 "dried" (spD K (S_dried K)) [] := by
  obtain ⟨fd, F⟩ := Y.d_dried
  exact ⟨_, fd, _, [], f_dried Y F, Y.g_dried, F.kp, F.bindsN (ps := [("amount" : Str), ("wet" : Str), ("aim" : Str)]) fun _ _ _ _ _ _ us hl => match us, hl with | [_, _, _], _ => rfl, .nil⟩
def m__law_left (amount_ : Int) (rate_ : Int) (days_ : Int) : Int :=
  ((List.range (days_).toNat).foldl (fun (s8 : Int) (a9 : Nat) => (let amount_13 : Int := (s8 - (if (decide ((((s8 * rate_) / 1000) * 1000) < (s8 * rate_))) = true then (((s8 * rate_) / 1000) + 1) else ((s8 * rate_) / 1000))); amount_13)) amount_)
def S__law_left (ds : List PyData) (r : Res) : Prop := ∃ (amount_ : Int) (rate_ : Int) (days_ : Int), ds = [(PyData.int amount_), (PyData.int rate_), (PyData.int days_)] ∧ ((0 ≤ amount_ ∧ amount_ ≤ 1000000) ∧ (0 ≤ rate_ ∧ rate_ ≤ 1000) ∧ (0 ≤ days_ ∧ days_ ≤ 1000)) ∧ r = .ret (PyData.int (m__law_left amount_ rate_ days_))
theorem f__law_left (Y : Py K mg) {fd : FuncData} (F : FunD K "_law_left" "_law_left" (defArgs s__law_left) (defBody s__law_left) (defScope s__law_left) [] [] (He.ga K "_law_left") fd) : FnOk P w K mg base (L2.CX P w) 1 (He.ga K "_law_left") fd [("amount" : Str), ("rate" : Str), ("days" : Str)] (spD K S__law_left) := by
  refine fn_DD F sc__law_left (fun ds r h => by obtain ⟨_, _, _, rfl, _⟩ := h; rfl) (by decide) (fun cdv A outer s H E hr ds r h => ?_)
  obtain ⟨amount_, rate_, days_, rfl, pre, rfl⟩ := h
  refine bd_env (ρ' := [.d (PyData.int amount_), .d (PyData.int rate_), .d (PyData.int days_), .un, .un]) rfl ?_
  refine bd_cut (fun r => ∃ s8 : Int, s8 = (List.range (days_).toNat).foldl (fun (s8 : Int) (a9 : Nat) => (let amount_13 : Int := (s8 - (if (decide ((((s8 * rate_) / 1000) * 1000) < (s8 * rate_))) = true then (((s8 * rate_) / 1000) + 1) else ((s8 * rate_) / 1000))); amount_13)) amount_ ∧ Le [.d (PyData.int s8), .d (PyData.int rate_), .d (PyData.int days_), .un, .un] r ∧ (fun (i10 : Nat) (s8 : Int) => 0 ≤ s8 ∧ s8 ≤ 1000000) (List.range (days_).toNat).length s8) (sd_forF (List.range (days_).toNat) (fun i : Nat => PyData.int (i : Int)) (fun s8 : Int => [.d (PyData.int s8), .d (PyData.int rate_), .d (PyData.int days_), .un, .un]) (fun (s8 : Int) (a9 : Nat) => (let amount_13 : Int := (s8 - (if (decide ((((s8 * rate_) / 1000) * 1000) < (s8 * rate_))) = true then (((s8 * rate_) / 1000) + 1) else ((s8 * rate_) / 1000))); amount_13)) amount_ (fun (i10 : Nat) (s8 : Int) => 0 ≤ s8 ∧ s8 ≤ 1000000) (passes_of rfl) rfl (id_rangeI Y.z_range (pd_var 2 rfl) (/- side 0 -/ by omega) (/- side 1 -/ by omega)) (by repeat (first | exact Le.nil | apply Le.eq | apply Le.un)) (by omega) (fun _ => trivial) (fun i10 s8 a9 ha hs14 pv => ⟨_, (gd_name 3 sc__law_left.nd), ?_⟩) (fun s8 hs14 pv => ⟨_, hs14, Le.refl _, pv⟩)) ?_
  · try dsimp only at pv
    have hg := gone2 s8 rate_
    have hb := gone_bd pv.1 pre.2.1.1 pre.2.1.2
    refine bd_env (ρ' := [.d (PyData.int s8), .d (PyData.int rate_), .d (PyData.int days_), .d (PyData.int (a9 : Int)), .un]) rfl ?_
    refine bd_seq (sd_set 4 (pd_fdiv (/- side 3 -/ by first | exact ⟨by omega, by omega⟩) (pd_mul (/- side 2 -/ by first | exact .inl (by omega) | exact .inr (by omega)) (pd_var 0 rfl) (pd_var 1 rfl)) pd_int) rfl sc__law_left.nd) ?_
    refine bd_env (ρ' := [.d (PyData.int s8), .d (PyData.int rate_), .d (PyData.int days_), .d (PyData.int (a9 : Int)), .d (PyData.int ((s8 * rate_) / 1000))]) rfl ?_
    -- hk12: if gone * 1000 < amount * rate
    refine bd_ite (k := (decide ((((s8 * rate_) / 1000) * 1000) < (s8 * rate_)))) [.d (PyData.int s8), .d (PyData.int rate_), .d (PyData.int days_), .d (PyData.int (a9 : Int)), .d (PyData.int (if (decide ((((s8 * rate_) / 1000) * 1000) < (s8 * rate_))) = true then (((s8 * rate_) / 1000) + 1) else ((s8 * rate_) / 1000)))] (td_lt (pd_mul (/- side 4 -/ by first | exact .inl (by omega) | exact .inr (by omega)) (pd_var 4 rfl) pd_int) (pd_mul (/- side 5 -/ by first | exact .inl (by omega) | exact .inr (by omega)) (pd_var 0 rfl) (pd_var 1 rfl))) (fun hk12 => ?_) (fun hk12 => ?_) ?_
    · skip
      have hk12f := hk12; try simp only [decide_eq_true_eq, decide_eq_false_iff_not, Bool.and_eq_true, Bool.or_eq_true, Bool.not_eq_true', Bool.not_eq_false', Bool.and_eq_false_iff, Bool.or_eq_false_iff, Bool.not_true, Bool.not_false, List.isEmpty_iff] at hk12f
      refine bd_seq (sd_set 4 (pd_add (pd_var 4 rfl) pd_int) rfl sc__law_left.nd) ?_
      refine bd_env (ρ' := [.d (PyData.int s8), .d (PyData.int rate_), .d (PyData.int days_), .d (PyData.int (a9 : Int)), .d (PyData.int (((s8 * rate_) / 1000) + 1))]) rfl ?_
      exact bd_nil (by subst_vars; (try simp only [hk12, if_true, if_false, Bool.false_eq_true, ↓reduceIte]); repeat (first | exact Le.nil | apply Le.eq | apply Le.un))
    · skip
      have hk12f := hk12; try simp only [decide_eq_true_eq, decide_eq_false_iff_not, Bool.and_eq_true, Bool.or_eq_true, Bool.not_eq_true', Bool.not_eq_false', Bool.and_eq_false_iff, Bool.or_eq_false_iff, Bool.not_true, Bool.not_false, List.isEmpty_iff] at hk12f
      exact bd_nil (by subst_vars; (try simp only [hk12, if_true, if_false, Bool.false_eq_true, ↓reduceIte]); repeat (first | exact Le.nil | apply Le.eq | apply Le.un))
    refine bd_seq (sd_set 0 (pd_sub (pd_var 0 rfl) (pd_var 4 rfl)) rfl sc__law_left.nd) ?_
    refine bd_env (ρ' := [.d (PyData.int (s8 - (if (decide ((((s8 * rate_) / 1000) * 1000) < (s8 * rate_))) = true then (((s8 * rate_) / 1000) + 1) else ((s8 * rate_) / 1000)))), .d (PyData.int rate_), .d (PyData.int days_), .d (PyData.int (a9 : Int)), .d (PyData.int (if (decide ((((s8 * rate_) / 1000) * 1000) < (s8 * rate_))) = true then (((s8 * rate_) / 1000) + 1) else ((s8 * rate_) / 1000)))]) rfl ?_
    generalize hamount_13 : ((s8 - (if (decide ((((s8 * rate_) / 1000) * 1000) < (s8 * rate_))) = true then (((s8 * rate_) / 1000) + 1) else ((s8 * rate_) / 1000))) : Int) = amount_13
    refine bd_nil ⟨(by subst_vars; (try simp only [if_true, if_false, Bool.false_eq_true, ↓reduceIte]); repeat (first | exact Le.nil | apply Le.eq | apply Le.un)), (by dsimp only; rw [hg] at *; omega)⟩
  rintro r ⟨s8, hs14, hle, pv⟩
  refine bd_le hle ?_
  clear hle
  try dsimp only at pv
  subst hs14
  exact bd_one (sd_ret (x := (PyData.int ((List.range (days_).toNat).foldl (fun (s8 : Int) (a9 : Nat) => (let amount_13 : Int := (s8 - (if (decide ((((s8 * rate_) / 1000) * 1000) < (s8 * rate_))) = true then (((s8 * rate_) / 1000) + 1) else ((s8 * rate_) / 1000))); amount_13)) amount_))) (pd_var 0 rfl) (by subst_vars; first | rfl | (simp only [m__law_left, if_true, if_false, Bool.false_eq_true, ↓reduceIte]; done) | (simp only [m__law_left, if_true, if_false, Bool.false_eq_true, ↓reduceIte]; rfl)))
theorem c__law_left (Y : Py K mg) : Cal P w K mg base 1 "_law_left" (spD K S__law_left) [] := by
  obtain ⟨fd, F⟩ := Y.d__law_left
  exact ⟨_, fd, _, [], f__law_left Y F, Y.g__law_left, F.kp, F.bindsN (ps := [("amount" : Str), ("rate" : Str), ("days" : Str)]) fun _ _ _ _ _ _ us hl => match us, hl with | [_, _, _], _ => rfl, .nil⟩
end
end GP
namespace GP
open PySem PySem.Spec PyProof.Rows L2 G
section
variable {P : Program} {w : World} {K : PySem.W.Frag} {mg : Str → Option Value} {base : Heap}

/-- the least x from lo on with p x, by halves -/
def bs (p : Int → Bool) : Nat → Int → Int → Int
  | 0, lo, _ => lo
  | n + 1, lo, hi => if lo < hi then (if p ((lo + hi) / 2) = true then bs p n lo ((lo + hi) / 2) else bs p n ((lo + hi) / 2 + 1) hi) else lo
def m_needed (need rate days : Int) : Option Int := if decide (m_left 1000000 rate days < need) = true then none else some (bs (fun h => decide (need ≤ m_left h rate days)) 1000000 0 1000000)
def S_needed (K : PySem.W.Frag) (ds : List PyData) (r : Res) : Prop := (∃ (need rate days : Int), ds = [.int need, .int rate, .int days] ∧ ((0 ≤ need ∧ need ≤ 1000000) ∧ (0 ≤ rate ∧ rate ≤ 1000) ∧ (0 ≤ days ∧ days ≤ 1000)) ∧ r = .ret (dO PyData.int (m_needed need rate days))) ∨
  (∃ (need rate days : PyData), ds = [need, rate, days] ∧ (isDct need = false ∧ isDct rate = false ∧ isDct days = false) ∧ (isNum need 0 1000000 && isNum rate 0 1000 && isNum days 0 1000) = false ∧ r = .exc (.ref (He.ga K "InvalidNumber")) [])
theorem f_needed (Y : Py K mg) {fd : FuncData} (F : FunD K "needed" "needed" (defArgs s_needed) (defBody s_needed) (defScope s_needed) [] [] (He.ga K "needed") fd) : FnOk P w K mg base (L2.CX P w) 4 (He.ga K "needed") fd [("need" : Str), ("rate" : Str), ("days" : Str)] (spD K (S_needed K)) := by
  refine fn_DD F sc_needed (fun ds r h => by rcases h with ⟨_, _, _, rfl, _⟩ | ⟨_, _, _, rfl, _⟩ <;> rfl) (by decide) (fun cdv A outer s H E hr ds r h => ?_)
  rcases h with ⟨need, rate, days, rfl, ⟨pn, prd⟩, rfl⟩ | ⟨need, rate, days, rfl, nd, hbad, rfl⟩
  case inr =>
    refine bd_env (ρ' := [.d need, .d rate, .d days, .un, .un, .un]) rfl ?_
    by_cases hc0 : isNum need 0 1000000 = true
    case neg => exact bd_guard_end (sd_exprX (px_call (takes_of rfl rfl rfl rfl) (c_checked_number_1 Y) hr (.int (.int .nil)) (ad_cons (pd_var 0 rfl) ad_nil) ⟨need, 0, 1000000, rfl, ⟨nd.1, by decide, by decide⟩, chk_bad (by simpa using hc0)⟩) ⟨rfl, rfl⟩)
    refine bd_seq (sd_expr (pd_call (c_checked_number_1 Y) hr (.int (.int .nil)) (ad_cons (pd_var 0 rfl) ad_nil) ⟨need, 0, 1000000, rfl, ⟨nd.1, by decide, by decide⟩, chk_yes hc0⟩) rfl) ?_
    exact bd_guard_end (sd_ifX (tx_cmpL op_lt (px_call (takes_of rfl rfl rfl rfl) (c_left Y) hr .nil (ad_cons pd_int (ad_cons (pd_var 1 rfl) (ad_cons (pd_var 2 rfl) ad_nil))) (.inr ⟨.int 1000000, rate, days, rfl, ⟨rfl, nd.2⟩, by rw [hc0] at hbad; simpa [isNum] using hbad, rfl⟩)) (nomark _)) ⟨rfl, rfl⟩)
  refine bd_seq (sd_expr (pd_call (c_checked_number_1 Y) hr (.int (.int .nil)) (ad_cons (pd_var 0 rfl) ad_nil) ⟨.int need, 0, 1000000, rfl, ⟨rfl, by decide, by decide⟩, chk_ok pn⟩) rfl) ?_
  refine bd_env (ρ' := [.d (PyData.int need), .d (PyData.int rate), .d (PyData.int days), .un, .un, .un]) rfl ?_
  refine bd_guard (k := decide (m_left 1000000 rate days < need)) (td_lt (pd_call (c_left Y) hr .nil (ad_cons pd_int (ad_cons (pd_var 1 rfl) (ad_cons (pd_var 2 rfl) ad_nil))) (.inl ⟨1000000, rate, days, rfl, ⟨by decide, prd⟩, rfl⟩)) (pd_var 0 rfl)) (fun hk => ?_) (fun hk => ?_)
  · exact bd_one (sd_ret pd_non (by show PyData.none = dO PyData.int (m_needed need rate days); rw [m_needed, if_pos hk]; rfl))
  refine bd_seq (sd_set 3 pd_int rfl sc_needed.nd) ?_
  refine bd_seq (sd_set 4 pd_int rfl sc_needed.nd) ?_
  refine bd_env (ρ' := [.d (PyData.int need), .d (PyData.int rate), .d (PyData.int days), .d (PyData.int 0), .d (PyData.int 1000000), .un]) rfl ?_
  generalize hp : (fun h => decide (need ≤ m_left h rate days)) = p
  have hR : m_needed need rate days = some (bs p 1000000 0 1000000) := by
    rw [m_needed, if_neg (by rw [hk]; exact Bool.false_ne_true), hp]
  rw [hR]
  refine bd_cut (fun r => ∃ s : Int × Int, (∃ n, s.2 - s.1 ≤ (n : Nat) ∧ bs p n s.1 s.2 = bs p 1000000 0 1000000) ∧ ¬ s.1 < s.2 ∧ Le [.d (PyData.int need), .d (PyData.int rate), .d (PyData.int days), .d (PyData.int s.1), .d (PyData.int s.2), .un] r)
    (sd_while (fun s : Int × Int => [.d (PyData.int need), .d (PyData.int rate), .d (PyData.int days), .d (PyData.int s.1), .d (PyData.int s.2), .un]) (fun s => (0 ≤ s.1 ∧ s.2 ≤ 1000000) ∧ ∃ n, s.2 - s.1 ≤ (n : Nat) ∧ bs p n s.1 s.2 = bs p 1000000 0 1000000) (fun s => (s.2 - s.1).toNat) (fun s => decide (s.1 < s.2)) (passes_of rfl) ⟨(0, 1000000), by repeat (first | exact Le.nil | apply Le.eq | apply Le.un), ⟨by decide, by decide⟩, 1000000, by decide, rfl⟩ (fun s _ => td_lt (pd_var 3 rfl) (pd_var 4 rfl)) (fun s ps hc => ?_) (fun s ps hc => ⟨s, ps.2, of_decide_eq_false hc, Le.refl _⟩)) ?_
  · have hc := of_decide_eq_true hc
    obtain ⟨⟨b1, b2⟩, n, hn, hb⟩ := ps
    obtain ⟨lo, hi⟩ := s
    dsimp only at *
    obtain ⟨n, rfl⟩ : ∃ n', n = n' + 1 := ⟨n - 1, by omega⟩
    refine bd_seq (sd_set 5 (pd_fdiv ⟨by decide, by decide⟩ (pd_add (pd_var 3 rfl) (pd_var 4 rfl)) pd_int) rfl sc_needed.nd) ?_
    refine bd_env (ρ' := [.d (PyData.int need), .d (PyData.int rate), .d (PyData.int days), .d (PyData.int lo), .d (PyData.int hi), .d (PyData.int ((lo + hi) / 2))]) rfl ?_
    have hb' : bs p (n + 1) lo hi = if p ((lo + hi) / 2) = true then bs p n lo ((lo + hi) / 2) else bs p n ((lo + hi) / 2 + 1) hi := by
      show (if lo < hi then _ else _) = _
      rw [if_pos hc]
    have hh : lo ≤ (lo + hi) / 2 ∧ (lo + hi) / 2 < hi := by omega
    generalize (lo + hi) / 2 = half at *
    refine bd_one (sd_if (k := decide (need ≤ m_left half rate days)) (td_ge (pd_call (c_left Y) hr .nil (ad_cons (pd_var 5 rfl) (ad_cons (pd_var 1 rfl) (ad_cons (pd_var 2 rfl) ad_nil))) (.inl ⟨half, rate, days, rfl, ⟨by omega, prd⟩, rfl⟩)) (pd_var 0 rfl)) (fun hk => ?_) (fun hk => ?_))
    · have hp2 : p half = true := by rw [← hp]; exact hk
      rw [if_pos hp2] at hb'
      refine bd_one (sd_set 4 (pd_var 5 rfl) ⟨_, ?_, (lo, half), rfl, ⟨⟨b1, by dsimp only; omega⟩, n, by dsimp only; omega, by rw [← hb, hb']⟩, by dsimp only; omega⟩ sc_needed.nd)
      repeat (first | exact Le.nil | apply Le.eq | apply Le.un)
    · have hp2 : p half = false := by rw [← hp]; exact hk
      rw [if_neg (by rw [hp2]; exact Bool.false_ne_true)] at hb'
      refine bd_one (sd_set 3 (pd_add (pd_var 5 rfl) pd_int) ⟨_, ?_, (half + 1, hi), rfl, ⟨⟨by dsimp only; omega, by dsimp only; omega⟩, n, by dsimp only; omega, by rw [← hb, hb']⟩, by dsimp only; omega⟩ sc_needed.nd)
      repeat (first | exact Le.nil | apply Le.eq | apply Le.un)
  · rintro r ⟨⟨lo, hi⟩, ⟨n, hn, hb⟩, hlt, hle⟩
    refine bd_le hle ?_
    refine bd_one (sd_ret (pd_var 3 rfl) ?_)
    show PyData.int lo = PyData.int (bs p 1000000 0 1000000)
    rw [← hb]
    cases n with
    | zero => rfl
    | succ n =>
      show _ = PyData.int (if lo < hi then _ else lo)
      rw [if_neg hlt]

theorem c_needed (Y : Py K mg) : Cal P w K mg base 4 "needed" (spD K (S_needed K)) [] := by
  obtain ⟨fd, F⟩ := Y.d_needed
  exact ⟨_, fd, _, [], f_needed Y F, Y.g_needed, F.kp, F.bindsN (ps := [("need" : Str), ("rate" : Str), ("days" : Str)]) fun _ _ _ _ _ _ us hl => match us, hl with | [_, _, _], _ => rfl, .nil⟩

def gone (a r : Int) : Int := a - (a * r + 999) / 1000
/-- day by day, as long as enough is left -/
def ldF (r need : Int) : Nat → Int → Int → Int
  | 0, _, d => d
  | n + 1, a, d => if need ≤ gone a r then ldF r need n (gone a r) (d + 1) else d
def m_last_day (a r need : Int) : Option Int := if decide (a < need) = true then none else some (ldF r need 1000 a 0)
def S_last_day (K : PySem.W.Frag) (ds : List PyData) (r : Res) : Prop := (∃ (a rate need : Int), ds = [.int a, .int rate, .int need] ∧ ((0 ≤ a ∧ a ≤ 1000000) ∧ (0 ≤ rate ∧ rate ≤ 1000) ∧ (0 ≤ need ∧ need ≤ 1000000)) ∧ r = .ret (dO PyData.int (m_last_day a rate need))) ∨
  (∃ (a rate need : PyData), ds = [a, rate, need] ∧ (isDct a = false ∧ isDct rate = false ∧ isDct need = false) ∧ (isNum a 0 1000000 && isNum rate 0 1000 && isNum need 0 1000000) = false ∧ r = .exc (.ref (He.ga K "InvalidNumber")) [])
theorem f_last_day (Y : Py K mg) {fd : FuncData} (F : FunD K "last_day" "last_day" (defArgs s_last_day) (defBody s_last_day) (defScope s_last_day) [] [] (He.ga K "last_day") fd) : FnOk P w K mg base (L2.CX P w) 4 (He.ga K "last_day") fd [("amount" : Str), ("rate" : Str), ("need" : Str)] (spD K (S_last_day K)) := by
  refine fn_DD F sc_last_day (fun ds r h => by rcases h with ⟨_, _, _, rfl, _⟩ | ⟨_, _, _, rfl, _⟩ <;> rfl) (by decide) (fun cdv A outer s H E hr ds r h => ?_)
  rcases h with ⟨a, rate, need, rfl, ⟨pa, pr, pn⟩, rfl⟩ | ⟨a, rate, need, rfl, nd, hbad, rfl⟩
  case inr =>
    refine bd_env (ρ' := [.d a, .d rate, .d need, .un]) rfl ?_
    by_cases hc0 : isNum a 0 1000000 = true
    case neg => exact bd_guard_end (sd_exprX (px_call (takes_of rfl rfl rfl rfl) (c_checked_number_1 Y) hr (.int (.int .nil)) (ad_cons (pd_var 0 rfl) ad_nil) ⟨a, 0, 1000000, rfl, ⟨nd.1, by decide, by decide⟩, chk_bad (by simpa using hc0)⟩) ⟨rfl, rfl⟩)
    refine bd_seq (sd_expr (pd_call (c_checked_number_1 Y) hr (.int (.int .nil)) (ad_cons (pd_var 0 rfl) ad_nil) ⟨a, 0, 1000000, rfl, ⟨nd.1, by decide, by decide⟩, chk_yes hc0⟩) rfl) ?_
    by_cases hc1 : isNum rate 0 1000 = true
    case neg => exact bd_guard_end (sd_exprX (px_call (takes_of rfl rfl rfl rfl) (c_checked_number_3 Y) hr .nil (ad_cons (pd_var 1 rfl) (ad_cons pd_int (ad_cons pd_int ad_nil))) ⟨rate, 0, 1000, rfl, ⟨nd.2.1, by decide, by decide⟩, chk_bad (by simpa using hc1)⟩) ⟨rfl, rfl⟩)
    refine bd_seq (sd_expr (pd_call (c_checked_number_3 Y) hr .nil (ad_cons (pd_var 1 rfl) (ad_cons pd_int (ad_cons pd_int ad_nil))) ⟨rate, 0, 1000, rfl, ⟨nd.2.1, by decide, by decide⟩, chk_yes hc1⟩) rfl) ?_
    by_cases hc2 : isNum need 0 1000000 = true
    case neg => exact bd_guard_end (sd_exprX (px_call (takes_of rfl rfl rfl rfl) (c_checked_number_1 Y) hr (.int (.int .nil)) (ad_cons (pd_var 2 rfl) ad_nil) ⟨need, 0, 1000000, rfl, ⟨nd.2.2, by decide, by decide⟩, chk_bad (by simpa using hc2)⟩) ⟨rfl, rfl⟩)
    rw [hc0, hc1, hc2] at hbad
    cases hbad
  refine bd_seq (sd_expr (pd_call (c_checked_number_1 Y) hr (.int (.int .nil)) (ad_cons (pd_var 0 rfl) ad_nil) ⟨.int a, 0, 1000000, rfl, ⟨rfl, by decide, by decide⟩, chk_ok pa⟩) rfl) ?_
  refine bd_seq (sd_expr (pd_call (c_checked_number_3 Y) hr .nil (ad_cons (pd_var 1 rfl) (ad_cons pd_int (ad_cons pd_int ad_nil))) ⟨.int rate, 0, 1000, rfl, ⟨rfl, by decide, by decide⟩, chk_ok pr⟩) rfl) ?_
  refine bd_seq (sd_expr (pd_call (c_checked_number_1 Y) hr (.int (.int .nil)) (ad_cons (pd_var 2 rfl) ad_nil) ⟨.int need, 0, 1000000, rfl, ⟨rfl, by decide, by decide⟩, chk_ok pn⟩) rfl) ?_
  refine bd_env (ρ' := [.d (PyData.int a), .d (PyData.int rate), .d (PyData.int need), .un]) rfl ?_
  refine bd_guard (k := decide (a < need)) (td_lt (pd_var 0 rfl) (pd_var 2 rfl)) (fun hk => ?_) (fun hk => ?_)
  · exact bd_one (sd_ret pd_non (by show PyData.none = dO PyData.int (m_last_day a rate need); rw [m_last_day, if_pos hk]; rfl))
  have hR : m_last_day a rate need = some (ldF rate need 1000 a 0) := by rw [m_last_day, if_neg (by rw [hk]; exact Bool.false_ne_true)]
  rw [hR]
  refine bd_seq (sd_set 3 pd_int rfl sc_last_day.nd) ?_
  refine bd_env (ρ' := [.d (PyData.int a), .d (PyData.int rate), .d (PyData.int need), .d (PyData.int 0)]) rfl ?_
  have TD1 : ∀ (c : Cx) (b d : Int), True := fun _ _ _ => trivial
  refine bd_cut (fun r => ∃ s : Int × Int, s.2 = ldF rate need 1000 a 0 ∧ Le [.d (PyData.int s.1), .d (PyData.int rate), .d (PyData.int need), .d (PyData.int s.2)] r)
    (sd_while (fun s : Int × Int => [.d (PyData.int s.1), .d (PyData.int rate), .d (PyData.int need), .d (PyData.int s.2)]) (fun s => (0 ≤ s.1 ∧ s.1 ≤ 1000000) ∧ (0 ≤ s.2 ∧ s.2 ≤ 1000) ∧ ∃ n : Nat, s.2 + n = 1000 ∧ ldF rate need n s.1 s.2 = ldF rate need 1000 a 0) (fun s => (1000 - s.2).toNat) (fun s => decide (s.2 < 1000) && decide (need ≤ gone s.1 rate)) (passes_of rfl) ⟨(a, 0), by repeat (first | exact Le.nil | apply Le.eq | apply Le.un), pa, (by show (0 : Int) ≤ 0 ∧ (0 : Int) ≤ 1000; decide), 1000, (by show (0 : Int) + ((1000 : Nat) : Int) = 1000; decide), rfl⟩
      (fun s ps => td_w (wd_and (td_lt (pd_var 3 rfl) (pd_gint (Y.i_DAYS).choose_spec)) fun _ => wd_and1 (td_ge (pd_sub (pd_var 0 rfl) (pd_fdiv ⟨by decide, by decide⟩ (pd_add (pd_mul (.inl (by omega)) (pd_var 0 rfl) (pd_var 1 rfl)) pd_int) pd_int)) (pd_var 2 rfl)))) (fun s ps hc => ?_) (fun s ps hc => ⟨s, ?_, Le.refl _⟩)) ?_
  · obtain ⟨h1, h2⟩ := Bool.and_eq_true_iff.mp hc
    have h1 := of_decide_eq_true h1
    have h2 := of_decide_eq_true h2
    obtain ⟨⟨b1, b2⟩, b3, n, hn, hb⟩ := ps
    obtain ⟨x, dd⟩ := s
    dsimp only at *
    obtain ⟨n, rfl⟩ : ∃ n', n = n' + 1 := ⟨n - 1, by omega⟩
    have hg := gone_bd b1 pr.1 pr.2
    refine bd_seq (sd_set 0 (pd_sub (pd_var 0 rfl) (pd_fdiv ⟨by decide, by decide⟩ (pd_add (pd_mul (.inl (by omega)) (pd_var 0 rfl) (pd_var 1 rfl)) pd_int) pd_int)) rfl sc_last_day.nd) ?_
    refine bd_one (sd_set 3 (pd_add (pd_var 3 rfl) pd_int) ⟨_, ?_, (gone x rate, dd + 1), rfl, ⟨by unfold gone; dsimp only; omega, by dsimp only; omega, n, by dsimp only; omega, ?_⟩, by dsimp only; omega⟩ sc_last_day.nd)
    · repeat (first | exact Le.nil | apply Le.eq | apply Le.un)
    · rw [← hb]
      show _ = if need ≤ gone x rate then ldF rate need n (gone x rate) (dd + 1) else dd
      rw [if_pos h2]
  · obtain ⟨b1, b3, n, hn, hb⟩ := ps
    obtain ⟨x, dd⟩ := s
    dsimp only at *
    rw [← hb]
    cases n with
    | zero => rfl
    | succ n =>
      show _ = if need ≤ gone x rate then ldF rate need n (gone x rate) (dd + 1) else dd
      rw [if_neg]
      intro z
      rw [Bool.and_eq_false_iff] at hc
      rcases hc with q | q
      · have := of_decide_eq_false q; omega
      · exact (of_decide_eq_false q) z
  · rintro r ⟨s, hs, hle⟩
    refine bd_le hle ?_
    exact bd_one (sd_ret (pd_var 3 rfl) (by show PyData.int s.2 = PyData.int _; rw [hs]))

theorem c_last_day (Y : Py K mg) : Cal P w K mg base 4 "last_day" (spD K (S_last_day K)) [] := by
  obtain ⟨fd, F⟩ := Y.d_last_day
  exact ⟨_, fd, _, [], f_last_day Y F, Y.g_last_day, F.kp, F.bindsN (ps := [("amount" : Str), ("rate" : Str), ("need" : Str)]) fun _ _ _ _ _ _ us hl => match us, hl with | [_, _, _], _ => rfl, .nil⟩
end
end GP

namespace GP
open PySem PySem.Spec PyProof.Rows L2 G
section
variable {P : Program} {w : World} {K : PySem.W.Frag} {mg : Str → Option Value} {base : Heap}

def m_mixed (parts_ : (List (Int × Int))) : (Int × Int) :=
  (if (decide ((parts_.foldl (fun (s101 : Int × Int) (a102 : (Int × Int)) => ((s101.1 + a102.1), (s101.2 + (a102.1 * a102.2)))) (0, 0)).1 = 0)) = true then (0, 0) else ((parts_.foldl (fun (s101 : Int × Int) (a102 : (Int × Int)) => ((s101.1 + a102.1), (s101.2 + (a102.1 * a102.2)))) (0, 0)).1, ((((parts_.foldl (fun (s101 : Int × Int) (a102 : (Int × Int)) => ((s101.1 + a102.1), (s101.2 + (a102.1 * a102.2)))) (0, 0)).2 + (parts_.foldl (fun (s101 : Int × Int) (a102 : (Int × Int)) => ((s101.1 + a102.1), (s101.2 + (a102.1 * a102.2)))) (0, 0)).1) - 1) / (parts_.foldl (fun (s101 : Int × Int) (a102 : (Int × Int)) => ((s101.1 + a102.1), (s101.2 + (a102.1 * a102.2)))) (0, 0)).1)))
def S_mixed (ds : List PyData) (r : Res) : Prop := ∃ (parts_ : (List (Int × Int))), ds = [((dL (dT2 PyData.int PyData.int)) parts_)] ∧ ((∀ p ∈ parts_, (0 ≤ p.1 ∧ p.1 ≤ 1000000) ∧ (0 ≤ p.2 ∧ p.2 ≤ 1000)) ∧ parts_.length ≤ 1000) ∧ r = .ret ((dT2 PyData.int PyData.int) (m_mixed parts_))
theorem f_mixed (Y : Py K mg) {fd : FuncData} (F : FunD K "mixed" "mixed" (defArgs s_mixed) (defBody s_mixed) (defScope s_mixed) [] [] (He.ga K "mixed") fd) : FnOk P w K mg base (L2.CX P w) 3 (He.ga K "mixed") fd [("parts" : Str)] (spD K S_mixed) := by
  refine fn_DD F sc_mixed (fun ds r h => by obtain ⟨_, rfl, _⟩ := h; rfl) (by decide) (fun cdv A outer s H E hr ds r h => ?_)
  obtain ⟨parts_, rfl, pre, rfl⟩ := h
  refine bd_env (ρ' := [.d ((dL (dT2 PyData.int PyData.int)) parts_), .un, .un, .un, .un]) rfl ?_
  refine bd_seq (sd_set 1 pd_int rfl sc_mixed.nd) ?_
  refine bd_env (ρ' := [.d ((dL (dT2 PyData.int PyData.int)) parts_), .d (PyData.int 0), .un, .un, .un]) rfl ?_
  refine bd_seq (sd_set 2 pd_int rfl sc_mixed.nd) ?_
  refine bd_env (ρ' := [.d ((dL (dT2 PyData.int PyData.int)) parts_), .d (PyData.int 0), .d (PyData.int 0), .un, .un]) rfl ?_
  refine bd_cut (fun r => ∃ s101 : Int × Int, s101 = parts_.foldl (fun (s101 : Int × Int) (a102 : (Int × Int)) => ((s101.1 + a102.1), (s101.2 + (a102.1 * a102.2)))) (0, 0) ∧ Le [.d ((dL (dT2 PyData.int PyData.int)) parts_), .d (PyData.int (s101.1)), .d (PyData.int (s101.2)), .un, .un] r ∧ (fun (i103 : Nat) (s101 : Int × Int) => (0 ≤ s101.1 ∧ s101.1 ≤ 1000000 * (i103 : Int))) parts_.length s101) (sd_forF parts_ (dT2 PyData.int PyData.int) (fun s101 : Int × Int => [.d ((dL (dT2 PyData.int PyData.int)) parts_), .d (PyData.int (s101.1)), .d (PyData.int (s101.2)), .un, .un]) (fun (s101 : Int × Int) (a102 : (Int × Int)) => ((s101.1 + a102.1), (s101.2 + (a102.1 * a102.2)))) (0, 0) (fun (i103 : Nat) (s101 : Int × Int) => (0 ≤ s101.1 ∧ s101.1 ≤ 1000000 * (i103 : Int))) (passes_of rfl) rfl (id_listD (f := (dT2 PyData.int PyData.int)) (ns := parts_) (pd_var 0 rfl)) (by repeat (first | exact Le.nil | apply Le.eq | apply Le.un)) (by simp) (fun _ => trivial) (fun i103 s101 a102 ha hs105 pv => ⟨_, (gd_tup rfl (gsd_cons (gd_name 3 sc_mixed.nd) (gsd_cons (gd_name 4 sc_mixed.nd) gsd_nil))), ?_⟩) (fun s101 hs105 pv => ⟨_, hs105, Le.refl _, pv⟩)) ?_
  · try dsimp only at pv
    have hi : i103 < parts_.length := by
      by_cases z : i103 < parts_.length
      · exact z
      · rw [List.getElem?_eq_none (by omega)] at ha; cases ha
    try rw [List.length_range] at hi
    have hp := pre.1 a102 (List.mem_of_getElem? ha)
    refine bd_env (ρ' := [.d ((dL (dT2 PyData.int PyData.int)) parts_), .d (PyData.int (s101.1)), .d (PyData.int (s101.2)), .d (PyData.int (a102.1)), .d (PyData.int (a102.2))]) rfl ?_
    refine bd_seq (sd_expr (pd_call (c_checked_number_1 Y) hr (.int (.int .nil)) (ad_cons (pd_var 3 rfl) ad_nil) ⟨(PyData.int (a102.1)), 0, 1000000, rfl, ⟨rfl, (/- side 0 -/ by first | exact sml_of (by omega) (by omega) | decide), (/- side 1 -/ by first | exact sml_of (by omega) (by omega) | decide)⟩, chk_ok (/- side 2 -/ by omega)⟩) rfl) ?_
    refine bd_seq (sd_expr (pd_call (c_checked_number_3 Y) hr .nil (ad_cons (pd_var 4 rfl) (ad_cons pd_int (ad_cons pd_int ad_nil))) ⟨(PyData.int (a102.2)), 0, 1000, rfl, ⟨rfl, (/- side 3 -/ by first | exact sml_of (by omega) (by omega) | decide), (/- side 4 -/ by first | exact sml_of (by omega) (by omega) | decide)⟩, chk_ok (/- side 5 -/ by omega)⟩) rfl) ?_
    refine bd_seq (sd_set 1 (pd_add (pd_var 1 rfl) (pd_var 3 rfl)) rfl sc_mixed.nd) ?_
    refine bd_env (ρ' := [.d ((dL (dT2 PyData.int PyData.int)) parts_), .d (PyData.int (s101.1 + a102.1)), .d (PyData.int (s101.2)), .d (PyData.int (a102.1)), .d (PyData.int (a102.2))]) rfl ?_
    refine bd_seq (sd_set 2 (pd_add (pd_var 2 rfl) (pd_mul (/- side 6 -/ by first | exact .inl (by omega) | exact .inr (by omega)) (pd_var 3 rfl) (pd_var 4 rfl))) rfl sc_mixed.nd) ?_
    refine bd_env (ρ' := [.d ((dL (dT2 PyData.int PyData.int)) parts_), .d (PyData.int (s101.1 + a102.1)), .d (PyData.int (s101.2 + (a102.1 * a102.2))), .d (PyData.int (a102.1)), .d (PyData.int (a102.2))]) rfl ?_
    refine bd_nil ⟨(by subst_vars; (try simp only [if_true, if_false, Bool.false_eq_true, ↓reduceIte]); repeat (first | exact Le.nil | apply Le.eq | apply Le.un)), (by dsimp only; omega)⟩
  rintro r ⟨s101, hs105, hle, pv⟩
  refine bd_le hle ?_
  clear hle
  try dsimp only at pv
  subst hs105
  -- hk106: if total == 0
  refine bd_guard (k := (decide ((parts_.foldl (fun (s101 : Int × Int) (a102 : (Int × Int)) => ((s101.1 + a102.1), (s101.2 + (a102.1 * a102.2)))) (0, 0)).1 = 0))) (td_eqI (pd_var 1 rfl) pd_int) (fun hk106 => ?_) (fun hk106 => ?_)
  · skip
    have hk106f := hk106; try simp only [decide_eq_true_eq, decide_eq_false_iff_not, Bool.and_eq_true, Bool.or_eq_true, Bool.not_eq_true', Bool.not_eq_false', Bool.and_eq_false_iff, Bool.or_eq_false_iff, Bool.not_true, Bool.not_false, List.isEmpty_iff] at hk106f
    exact bd_one (sd_ret (x := ((dT2 PyData.int PyData.int) (0, 0))) (pd_tup (ad_cons pd_int (ad_cons pd_int ad_nil))) (by subst_vars; first | rfl | (simp only [m_mixed, hk106, if_true, if_false, Bool.false_eq_true, ↓reduceIte]; done) | (simp only [m_mixed, hk106, if_true, if_false, Bool.false_eq_true, ↓reduceIte]; rfl)))
  · skip
    have hk106f := hk106; try simp only [decide_eq_true_eq, decide_eq_false_iff_not, Bool.and_eq_true, Bool.or_eq_true, Bool.not_eq_true', Bool.not_eq_false', Bool.and_eq_false_iff, Bool.or_eq_false_iff, Bool.not_true, Bool.not_false, List.isEmpty_iff] at hk106f
    exact bd_one (sd_ret (x := ((dT2 PyData.int PyData.int) ((parts_.foldl (fun (s101 : Int × Int) (a102 : (Int × Int)) => ((s101.1 + a102.1), (s101.2 + (a102.1 * a102.2)))) (0, 0)).1, ((((parts_.foldl (fun (s101 : Int × Int) (a102 : (Int × Int)) => ((s101.1 + a102.1), (s101.2 + (a102.1 * a102.2)))) (0, 0)).2 + (parts_.foldl (fun (s101 : Int × Int) (a102 : (Int × Int)) => ((s101.1 + a102.1), (s101.2 + (a102.1 * a102.2)))) (0, 0)).1) - 1) / (parts_.foldl (fun (s101 : Int × Int) (a102 : (Int × Int)) => ((s101.1 + a102.1), (s101.2 + (a102.1 * a102.2)))) (0, 0)).1)))) (pd_tup (ad_cons (pd_var 1 rfl) (ad_cons (pd_fdiv (/- side 7 -/ by first | exact ⟨by omega, by omega⟩) (pd_sub (pd_add (pd_var 2 rfl) (pd_var 1 rfl)) pd_int) (pd_var 1 rfl)) ad_nil))) (by subst_vars; first | rfl | (simp only [m_mixed, hk106, if_true, if_false, Bool.false_eq_true, ↓reduceIte]; done) | (simp only [m_mixed, hk106, if_true, if_false, Bool.false_eq_true, ↓reduceIte]; rfl)))
theorem c_mixed (Y : Py K mg) : Cal P w K mg base 3 "mixed" (spD K S_mixed) [] := by
  obtain ⟨fd, F⟩ := Y.d_mixed
  exact ⟨_, fd, _, [], f_mixed Y F, Y.g_mixed, F.kp, F.bindsN (ps := [("parts" : Str)]) fun _ _ _ _ _ _ us hl => match us, hl with | [_], _ => rfl, .nil⟩
def m_is_losing (series_ : (List Int)) : Bool :=
  (if (!((series_.filter (fun (a107 : Int) => (!(isNum (PyData.int a107) 0 (10 ^ (9 : Int).toNat))))).map (fun (a107 : Int) => a107)).isEmpty) = true then false else (((List.range (((series_.length : Int)) - (1)).toNat).map (fun (a109 : Nat) => (decide ((gI series_ (1 + (a109 : Int))) ≤ (gI series_ ((1 + (a109 : Int)) - 1)))))).all (fun b => b)))
def S_is_losing (ds : List PyData) (r : Res) : Prop := ∃ (series_ : (List Int)), ds = [((dL PyData.int) series_)] ∧ (series_.length ≤ 1000) ∧ r = .ret (PyData.bool (m_is_losing series_))
theorem f_is_losing (Y : Py K mg) {fd : FuncData} (F : FunD K "is_losing" "is_losing" (defArgs s_is_losing) (defBody s_is_losing) (defScope s_is_losing) [] [] (He.ga K "is_losing") fd) : FnOk P w K mg base (L2.CX P w) 2 (He.ga K "is_losing") fd [("series" : Str)] (spD K S_is_losing) := by
  refine fn_DD F sc_is_losing (fun ds r h => by obtain ⟨_, rfl, _⟩ := h; rfl) (by decide) (fun cdv A outer s H E hr ds r h => ?_)
  obtain ⟨series_, rfl, pre, rfl⟩ := h
  refine bd_env (ρ' := [.d ((dL PyData.int) series_), .un, .un, .un]) rfl ?_
  refine bd_seq (sd_set 1 (pd_n (pn_list Y.z_list (pq_d (pd_var 0 rfl)) srcN)) rfl sc_is_losing.nd) ?_
  refine bd_env (ρ' := [.d ((dL PyData.int) series_), .d ((dL PyData.int) series_), .un, .un]) rfl ?_
  -- hk108: if [amount for amount in rows if not is_number(amount, 0, 10 ** 9)]
  refine bd_guard (k := (!((series_.filter (fun (a107 : Int) => (!(isNum (PyData.int a107) 0 (10 ^ (9 : Int).toNat))))).map (fun (a107 : Int) => a107)).isEmpty)) (td_truthD (f := PyData.int) (ns := ((series_.filter (fun (a107 : Int) => (!(isNum (PyData.int a107) 0 (10 ^ (9 : Int).toNat))))).map (fun (a107 : Int) => a107))) (pd_n (pn_lc (lcM series_ PyData.int PyData.int (fun (a107 : Int) => (!(isNum (PyData.int a107) 0 (10 ^ (9 : Int).toNat)))) (fun (a107 : Int) => a107) (blkOk_by (own := [("amount", 2)]) (show blkC n_is_losing (defScope s_is_losing) _ _ = true by decide +kernel)) (id_listD (f := PyData.int) (ns := series_) (pd_var 1 rfl)) (/- side 1 -/ by first | assumption | omega | (have hi := List.mem_range.mp ha; omega) | (rw [List.length_range]; omega)) (by intro _ h; cases h) (by trivial) (fun a107 ha => ⟨_, _, (fun Z hZ => by obtain ⟨s1, H1, C1, cl1, fp1, rfl⟩ := hZ; exact (gv_name 2 (by decide) sc_is_losing.nd)), (fun Z hZ => by obtain ⟨s1, H1, C1, cl1, fp1, rfl⟩ := hZ; exact (tsd_one (td_not (td_val (pd_call (c_is_number_3 Y) hr .nil (ad_cons (pd_var 2 rfl) (ad_cons pd_int (ad_cons (pd_pow (/- side 0 -/ ⟨by decide, by decide, by decide⟩) pd_int pd_int) ad_nil))) ⟨(PyData.int a107), 0, (10 ^ (9 : Int).toNat), rfl, rfl, rfl⟩))))), (fun Z hZ hw => by obtain ⟨s1, H1, C1, cl1, fp1, rfl⟩ := hZ; exact (pd_var 2 rfl)), (by repeat (first | exact Le.nil | apply Le.eq | apply Le.un)), (by repeat (first | exact Le.nil | apply Le.eq | apply Le.un))⟩)) sc_is_losing.nd))) (fun hk108 => ?_) (fun hk108 => ?_)
  · skip
    have hk108f := hk108; try simp only [decide_eq_true_eq, decide_eq_false_iff_not, Bool.and_eq_true, Bool.or_eq_true, Bool.not_eq_true', Bool.not_eq_false', Bool.and_eq_false_iff, Bool.or_eq_false_iff, Bool.not_true, Bool.not_false, List.isEmpty_iff] at hk108f
    exact bd_one (sd_ret (x := (PyData.bool false)) pd_bl (by subst_vars; first | rfl | (simp only [m_is_losing, hk108, if_true, if_false, Bool.false_eq_true, ↓reduceIte]; done) | (simp only [m_is_losing, hk108, if_true, if_false, Bool.false_eq_true, ↓reduceIte]; rfl)))
  · skip
    have hk108f := hk108; try simp only [decide_eq_true_eq, decide_eq_false_iff_not, Bool.and_eq_true, Bool.or_eq_true, Bool.not_eq_true', Bool.not_eq_false', Bool.and_eq_false_iff, Bool.or_eq_false_iff, Bool.not_true, Bool.not_false, List.isEmpty_iff] at hk108f
    exact bd_one (sd_ret (x := (PyData.bool (((List.range (((series_.length : Int)) - (1)).toNat).map (fun (a109 : Nat) => (decide ((gI series_ (1 + (a109 : Int))) ≤ (gI series_ ((1 + (a109 : Int)) - 1)))))).all (fun b => b)))) (pd_allD (bs := ((List.range (((series_.length : Int)) - (1)).toNat).map (fun (a109 : Nat) => (decide ((gI series_ (1 + (a109 : Int))) ≤ (gI series_ ((1 + (a109 : Int)) - 1))))))) rfl Y.z_all (pd_n (pn_lc (lcN (List.range (((series_.length : Int)) - (1)).toNat) (fun i : Nat => PyData.int (1 + (i : Int))) PyData.bool (fun (a109 : Nat) => (decide ((gI series_ (1 + (a109 : Int))) ≤ (gI series_ ((1 + (a109 : Int)) - 1))))) (blkOk_by (own := [("index", 3)]) (show blkC n_is_losing (defScope s_is_losing) _ _ = true by decide +kernel)) (id_rangeM (m := 1) (n := (series_.length : Int)) Y.z_range pd_int (pd_lenD (f := PyData.int) (ns := series_) Y.z_len (pd_var 1 rfl)) (/- side 2 -/ by omega) (/- side 3 -/ by omega) (/- side 4 -/ by omega) (/- side 5 -/ by omega)) (/- side 8 -/ by first | assumption | omega | (have hi := List.mem_range.mp ha; omega) | (rw [List.length_range]; omega)) (by intro _ h; cases h) (by trivial) (fun a109 ha => ⟨_, _, (fun Z hZ => by obtain ⟨s1, H1, C1, cl1, fp1, rfl⟩ := hZ; exact (gv_name 3 (by decide) sc_is_losing.nd)), (fun Z hZ => by obtain ⟨s1, H1, C1, cl1, fp1, rfl⟩ := hZ; exact (pd_le (pd_gixD (f := PyData.int) (ns := series_) (i := (1 + (a109 : Int))) (/- side 6 -/ by first | assumption | omega | (have hi := List.mem_range.mp ha; omega) | (rw [List.length_range]; omega)) (pd_var 1 rfl) (pd_var 3 rfl)) (pd_gixD (f := PyData.int) (ns := series_) (i := ((1 + (a109 : Int)) - 1)) (/- side 7 -/ by first | assumption | omega | (have hi := List.mem_range.mp ha; omega) | (rw [List.length_range]; omega)) (pd_var 1 rfl) (pd_sub (pd_var 3 rfl) pd_int)))), (by repeat (first | exact Le.nil | apply Le.eq | apply Le.un)), (by repeat (first | exact Le.nil | apply Le.eq | apply Le.un))⟩)) sc_is_losing.nd))) (by subst_vars; first | rfl | (simp only [m_is_losing, hk108, if_true, if_false, Bool.false_eq_true, ↓reduceIte]; done) | (simp only [m_is_losing, hk108, if_true, if_false, Bool.false_eq_true, ↓reduceIte]; rfl)))
theorem c_is_losing (Y : Py K mg) : Cal P w K mg base 2 "is_losing" (spD K S_is_losing) [] := by
  obtain ⟨fd, F⟩ := Y.d_is_losing
  exact ⟨_, fd, _, [], f_is_losing Y F, Y.g_is_losing, F.kp, F.bindsN (ps := [("series" : Str)]) fun _ _ _ _ _ _ us hl => match us, hl with | [_], _ => rfl, .nil⟩
def m_rates (series_ : (List Int)) : (Option (Int × Int)) :=
  (if (!((List.range 1001).foldl (fun (s110 : (List Int)) (a111 : Nat) => (if (((List.range (((series_.length : Int)) - (1)).toNat).map (fun (a114 : Nat) => (decide ((m_left (gI series_ ((1 + (a114 : Int)) - 1)) (a111 : Int) 1) = (gI series_ (1 + (a114 : Int))))))).all (fun b => b)) = true then (s110 ++ [(a111 : Int)]) else s110)) []).isEmpty) = true then (some ((gI ((List.range 1001).foldl (fun (s110 : (List Int)) (a111 : Nat) => (if (((List.range (((series_.length : Int)) - (1)).toNat).map (fun (a114 : Nat) => (decide ((m_left (gI series_ ((1 + (a114 : Int)) - 1)) (a111 : Int) 1) = (gI series_ (1 + (a114 : Int))))))).all (fun b => b)) = true then (s110 ++ [(a111 : Int)]) else s110)) []) 0), (gI ((List.range 1001).foldl (fun (s110 : (List Int)) (a111 : Nat) => (if (((List.range (((series_.length : Int)) - (1)).toNat).map (fun (a114 : Nat) => (decide ((m_left (gI series_ ((1 + (a114 : Int)) - 1)) (a111 : Int) 1) = (gI series_ (1 + (a114 : Int))))))).all (fun b => b)) = true then (s110 ++ [(a111 : Int)]) else s110)) []) (-1)))) else none)
def S_rates (ds : List PyData) (r : Res) : Prop := ∃ (series_ : (List Int)), ds = [((dL PyData.int) series_)] ∧ ((∀ x ∈ series_, 0 ≤ x ∧ x ≤ 1000000) ∧ series_.length ≤ 1000) ∧ r = .ret ((dO (dT2 PyData.int PyData.int)) (m_rates series_))
theorem f_rates (Y : Py K mg) {fd : FuncData} (F : FunD K "rates" "rates" (defArgs s_rates) (defBody s_rates) (defScope s_rates) [] [] (He.ga K "rates") fd) : FnOk P w K mg base (L2.CX P w) 4 (He.ga K "rates") fd [("series" : Str)] (spD K S_rates) := by
  refine fn_DD F sc_rates (fun ds r h => by obtain ⟨_, rfl, _⟩ := h; rfl) (by decide) (fun cdv A outer s H E hr ds r h => ?_)
  obtain ⟨series_, rfl, pre, rfl⟩ := h
  refine bd_env (ρ' := [.d ((dL PyData.int) series_), .un, .un, .un]) rfl ?_
  refine bd_seq (sd_setN 1 (pn_lst ad_nil) rfl sc_rates.nd) ?_
  refine bd_env (ρ' := [.d ((dL PyData.int) series_), .ol ([].map PyData.int), .un, .un]) rfl ?_
  refine bd_cut (fun r => ∃ s110 : (List Int), s110 = (List.range 1001).foldl (fun (s110 : (List Int)) (a111 : Nat) => (if (((List.range (((series_.length : Int)) - (1)).toNat).map (fun (a114 : Nat) => (decide ((m_left (gI series_ ((1 + (a114 : Int)) - 1)) (a111 : Int) 1) = (gI series_ (1 + (a114 : Int))))))).all (fun b => b)) = true then (s110 ++ [(a111 : Int)]) else s110)) [] ∧ Le [.d ((dL PyData.int) series_), .ol (s110.map PyData.int), .un, .un] r ∧ (fun (i112 : Nat) (s110 : (List Int)) => s110.length ≤ i112) (List.range 1001).length s110) (sd_forF (List.range 1001) (fun i : Nat => PyData.int (i : Int)) (fun s110 : (List Int) => [.d ((dL PyData.int) series_), .ol (s110.map PyData.int), .un, .un]) (fun (s110 : (List Int)) (a111 : Nat) => (if (((List.range (((series_.length : Int)) - (1)).toNat).map (fun (a114 : Nat) => (decide ((m_left (gI series_ ((1 + (a114 : Int)) - 1)) (a111 : Int) 1) = (gI series_ (1 + (a114 : Int))))))).all (fun b => b)) = true then (s110 ++ [(a111 : Int)]) else s110)) [] (fun (i112 : Nat) (s110 : (List Int)) => s110.length ≤ i112) (passes_of rfl) rfl (id_range0 (n := 1001) Y.z_range pd_int (/- side 0 -/ by decide)) (by repeat (first | exact Le.nil | apply Le.eq | apply Le.un)) (by first | trivial | omega | assumption | simp) (fun _ => trivial) (fun i112 s110 a111 ha hs116 pv => ⟨_, (gd_name 2 sc_rates.nd), ?_⟩) (fun s110 hs116 pv => ⟨_, hs116, Le.refl _, pv⟩)) ?_
  · try dsimp only at pv
    have hi : a111 < _ := List.mem_range.mp (List.mem_of_getElem? ha)
    have hi : i112 < (List.range 1001).length := by
      by_cases z : i112 < (List.range 1001).length
      · exact z
      · rw [List.getElem?_eq_none (by omega)] at ha; cases ha
    try rw [List.length_range] at hi
    refine bd_env (ρ' := [.d ((dL PyData.int) series_), .ol (s110.map PyData.int), .d (PyData.int (a111 : Int)), .un]) rfl ?_
    -- hk115: if all([left(series[index - 1], rate, 1) == series[index] for index in range(1, len(series))])
    refine bd_ite (k := (((List.range (((series_.length : Int)) - (1)).toNat).map (fun (a114 : Nat) => (decide ((m_left (gI series_ ((1 + (a114 : Int)) - 1)) (a111 : Int) 1) = (gI series_ (1 + (a114 : Int))))))).all (fun b => b))) [.d ((dL PyData.int) series_), .ol ((if (((List.range (((series_.length : Int)) - (1)).toNat).map (fun (a114 : Nat) => (decide ((m_left (gI series_ ((1 + (a114 : Int)) - 1)) (a111 : Int) 1) = (gI series_ (1 + (a114 : Int))))))).all (fun b => b)) = true then (s110 ++ [(a111 : Int)]) else s110).map PyData.int), .d (PyData.int (a111 : Int)), .un] (td_val (pd_allD (bs := ((List.range (((series_.length : Int)) - (1)).toNat).map (fun (a114 : Nat) => (decide ((m_left (gI series_ ((1 + (a114 : Int)) - 1)) (a111 : Int) 1) = (gI series_ (1 + (a114 : Int)))))))) rfl Y.z_all (pd_n (pn_lc (lcN (List.range (((series_.length : Int)) - (1)).toNat) (fun i : Nat => PyData.int (1 + (i : Int))) PyData.bool (fun (a114 : Nat) => (decide ((m_left (gI series_ ((1 + (a114 : Int)) - 1)) (a111 : Int) 1) = (gI series_ (1 + (a114 : Int)))))) (blkOk_by (own := [("index", 3)]) (show blkC n_rates (defScope s_rates) _ _ = true by decide +kernel)) (id_rangeM (m := 1) (n := (series_.length : Int)) Y.z_range pd_int (pd_lenD (f := PyData.int) (ns := series_) Y.z_len (pd_var 0 rfl)) (/- side 1 -/ by omega) (/- side 2 -/ by omega) (/- side 3 -/ by omega) (/- side 4 -/ by omega)) (/- side 8 -/ by first | assumption | omega | (have hi := List.mem_range.mp ha; omega) | (rw [List.length_range]; omega)) (by intro _ h; cases h) (by trivial) (fun a114 ha => ⟨_, _, (fun Z hZ => by obtain ⟨s1, H1, C1, cl1, fp1, rfl⟩ := hZ; exact (gv_name 3 (by decide) sc_rates.nd)), (fun Z hZ => by obtain ⟨s1, H1, C1, cl1, fp1, rfl⟩ := hZ; exact (pd_eqI (pd_call (c_left Y) hr .nil (ad_cons (pd_gixD (f := PyData.int) (ns := series_) (i := ((1 + (a114 : Int)) - 1)) (/- side 5 -/ by first | assumption | omega | (have hi := List.mem_range.mp ha; omega) | (rw [List.length_range]; omega)) (pd_var 0 rfl) (pd_sub (pd_var 3 rfl) pd_int)) (ad_cons (pd_var 2 rfl) (ad_cons pd_int ad_nil))) (.inl ⟨(gI series_ ((1 + (a114 : Int)) - 1)), (a111 : Int), 1, rfl, (/- side 6 -/ by have hi := List.mem_range.mp ha; have := pre.1 _ (gI_mem (xs := series_) (i := 1 + (a114 : Int) - 1) ⟨by omega, by omega⟩); omega), rfl⟩)) (pd_gixD (f := PyData.int) (ns := series_) (i := (1 + (a114 : Int))) (/- side 7 -/ by first | assumption | omega | (have hi := List.mem_range.mp ha; omega) | (rw [List.length_range]; omega)) (pd_var 0 rfl) (pd_var 3 rfl)))), (by repeat (first | exact Le.nil | apply Le.eq | apply Le.un)), (by repeat (first | exact Le.nil | apply Le.eq | apply Le.un))⟩)) sc_rates.nd)))) (fun hk115 => ?_) (fun hk115 => ?_) ?_
    · skip
      have hk115f := hk115; try simp only [decide_eq_true_eq, decide_eq_false_iff_not, Bool.and_eq_true, Bool.or_eq_true, Bool.not_eq_true', Bool.not_eq_false', Bool.and_eq_false_iff, Bool.or_eq_false_iff, Bool.not_true, Bool.not_false, List.isEmpty_iff] at hk115f
      refine bd_seq (sd_appendM (f := PyData.int) (ns := s110) (v := (a111 : Int)) 1 rfl (pd_var 2 rfl) rfl (/- side 9 -/ by first | assumption | omega | (have hi := List.mem_range.mp ha; omega) | (rw [List.length_range]; omega)) rfl) ?_
      refine bd_env (ρ' := [.d ((dL PyData.int) series_), .ol ((s110 ++ [(a111 : Int)]).map PyData.int), .d (PyData.int (a111 : Int)), .un]) rfl ?_
      exact bd_nil (by subst_vars; (try simp only [hk115, if_true, if_false, Bool.false_eq_true, ↓reduceIte]); repeat (first | exact Le.nil | apply Le.eq | apply Le.un))
    · skip
      have hk115f := hk115; try simp only [decide_eq_true_eq, decide_eq_false_iff_not, Bool.and_eq_true, Bool.or_eq_true, Bool.not_eq_true', Bool.not_eq_false', Bool.and_eq_false_iff, Bool.or_eq_false_iff, Bool.not_true, Bool.not_false, List.isEmpty_iff] at hk115f
      exact bd_nil (by subst_vars; (try simp only [hk115, if_true, if_false, Bool.false_eq_true, ↓reduceIte]); repeat (first | exact Le.nil | apply Le.eq | apply Le.un))
    refine bd_nil ⟨(by subst_vars; (try simp only [if_true, if_false, Bool.false_eq_true, ↓reduceIte]); repeat (first | exact Le.nil | apply Le.eq | apply Le.un)), (by split <;> first | omega | (simp; omega))⟩
  rintro r ⟨s110, hs116, hle, pv⟩
  refine bd_le hle ?_
  clear hle
  try dsimp only at pv
  subst hs116
  exact bd_one (sd_ret (x := ((dO (dT2 PyData.int PyData.int)) (if (!((List.range 1001).foldl (fun (s110 : (List Int)) (a111 : Nat) => (if (((List.range (((series_.length : Int)) - (1)).toNat).map (fun (a114 : Nat) => (decide ((m_left (gI series_ ((1 + (a114 : Int)) - 1)) (a111 : Int) 1) = (gI series_ (1 + (a114 : Int))))))).all (fun b => b)) = true then (s110 ++ [(a111 : Int)]) else s110)) []).isEmpty) = true then (some ((gI ((List.range 1001).foldl (fun (s110 : (List Int)) (a111 : Nat) => (if (((List.range (((series_.length : Int)) - (1)).toNat).map (fun (a114 : Nat) => (decide ((m_left (gI series_ ((1 + (a114 : Int)) - 1)) (a111 : Int) 1) = (gI series_ (1 + (a114 : Int))))))).all (fun b => b)) = true then (s110 ++ [(a111 : Int)]) else s110)) []) 0), (gI ((List.range 1001).foldl (fun (s110 : (List Int)) (a111 : Nat) => (if (((List.range (((series_.length : Int)) - (1)).toNat).map (fun (a114 : Nat) => (decide ((m_left (gI series_ ((1 + (a114 : Int)) - 1)) (a111 : Int) 1) = (gI series_ (1 + (a114 : Int))))))).all (fun b => b)) = true then (s110 ++ [(a111 : Int)]) else s110)) []) (-1)))) else none))) (pd_ift (dO (dT2 PyData.int PyData.int)) (some ((gI ((List.range 1001).foldl (fun (s110 : (List Int)) (a111 : Nat) => (if (((List.range (((series_.length : Int)) - (1)).toNat).map (fun (a114 : Nat) => (decide ((m_left (gI series_ ((1 + (a114 : Int)) - 1)) (a111 : Int) 1) = (gI series_ (1 + (a114 : Int))))))).all (fun b => b)) = true then (s110 ++ [(a111 : Int)]) else s110)) []) 0), (gI ((List.range 1001).foldl (fun (s110 : (List Int)) (a111 : Nat) => (if (((List.range (((series_.length : Int)) - (1)).toNat).map (fun (a114 : Nat) => (decide ((m_left (gI series_ ((1 + (a114 : Int)) - 1)) (a111 : Int) 1) = (gI series_ (1 + (a114 : Int))))))).all (fun b => b)) = true then (s110 ++ [(a111 : Int)]) else s110)) []) (-1)))) none (td_truthO (f := PyData.int) (ns := ((List.range 1001).foldl (fun (s110 : (List Int)) (a111 : Nat) => (if (((List.range (((series_.length : Int)) - (1)).toNat).map (fun (a114 : Nat) => (decide ((m_left (gI series_ ((1 + (a114 : Int)) - 1)) (a111 : Int) 1) = (gI series_ (1 + (a114 : Int))))))).all (fun b => b)) = true then (s110 ++ [(a111 : Int)]) else s110)) [])) 1 rfl) (fun hc => (pd_tup (ad_cons (pd_gixO (f := PyData.int) (ns := ((List.range 1001).foldl (fun (s110 : (List Int)) (a111 : Nat) => (if (((List.range (((series_.length : Int)) - (1)).toNat).map (fun (a114 : Nat) => (decide ((m_left (gI series_ ((1 + (a114 : Int)) - 1)) (a111 : Int) 1) = (gI series_ (1 + (a114 : Int))))))).all (fun b => b)) = true then (s110 ++ [(a111 : Int)]) else s110)) [])) (i := 0) 1 rfl pd_int rfl (/- side 10 -/ by have := ne_len hc; omega)) (ad_cons (pd_gixO (f := PyData.int) (ns := ((List.range 1001).foldl (fun (s110 : (List Int)) (a111 : Nat) => (if (((List.range (((series_.length : Int)) - (1)).toNat).map (fun (a114 : Nat) => (decide ((m_left (gI series_ ((1 + (a114 : Int)) - 1)) (a111 : Int) 1) = (gI series_ (1 + (a114 : Int))))))).all (fun b => b)) = true then (s110 ++ [(a111 : Int)]) else s110)) [])) (i := (-1)) 1 rfl (pd_neg pd_int) rfl (/- side 11 -/ by have := ne_len hc; omega)) ad_nil)))) (fun hc => pd_non)) (by subst_vars; first | rfl | (simp only [m_rates, if_true, if_false, Bool.false_eq_true, ↓reduceIte]; done) | (simp only [m_rates, if_true, if_false, Bool.false_eq_true, ↓reduceIte]; rfl)))
theorem c_rates (Y : Py K mg) : Cal P w K mg base 4 "rates" (spD K S_rates) [] := by
  obtain ⟨fd, F⟩ := Y.d_rates
  exact ⟨_, fd, _, [], f_rates Y F, Y.g_rates, F.kp, F.bindsN (ps := [("series" : Str)]) fun _ _ _ _ _ _ us hl => match us, hl with | [_], _ => rfl, .nil⟩
end
end GP
namespace GP
open PySem PySem.Spec PyProof.Rows L2 G
section
variable {P : Program} {w : World} {K : PySem.W.Frag} {mg : Str → Option Value} {base : Heap}

def S_mixed_bad (K : PySem.W.Frag) (ds : List PyData) (r : Res) : Prop := ∃ (a b : PyData), ds = [.list [.tuple [a, b]]] ∧ (isDct a = false ∧ isDct b = false) ∧ (isNum a 0 1000000 && isNum b 0 1000) = false ∧ r = .exc (.ref (He.ga K "InvalidNumber")) []
theorem f_mixed_bad (Y : Py K mg) {fd : FuncData} (F : FunD K "mixed" "mixed" (defArgs s_mixed) (defBody s_mixed) (defScope s_mixed) [] [] (He.ga K "mixed") fd) : FnOk P w K mg base (L2.CX P w) 3 (He.ga K "mixed") fd [("parts" : Str)] (spD K (S_mixed_bad K)) := by
  refine fn_DD F sc_mixed (fun ds r h => by obtain ⟨_, _, rfl, _⟩ := h; rfl) (by decide) (fun cdv A outer s H E hr ds r h => ?_)
  obtain ⟨a, b, rfl, nd, hbad, rfl⟩ := h
  refine bd_seq (sd_set 1 pd_int rfl sc_mixed.nd) ?_
  refine bd_seq (sd_set 2 pd_int rfl sc_mixed.nd) ?_
  refine bd_env (ρ' := [.d (.list [.tuple [a, b]]), .d (PyData.int 0), .d (PyData.int 0), .un, .un]) rfl ?_
  refine bd_guard_end (sd_forE (R := Unit) [()] (fun _ => .tuple [a, b]) (fun _ : Unit => [.d (.list [.tuple [a, b]]), .d (PyData.int 0), .d (PyData.int 0), .un, .un]) (fun _ _ => .error ()) () (fun _ _ => True) (passes_of rfl) rfl (id_listD (f := fun _ : Unit => .tuple [a, b]) (ns := [()]) (pd_var 0 rfl)) (Le.refl _) trivial (fun _ => trivial) (fun i u x hx hs pv => ⟨_, gd_tup rfl (gsd_cons (gd_name 3 sc_mixed.nd) (gsd_cons (gd_name 4 sc_mixed.nd) gsd_nil)), ?_⟩) (fun s hs _ => by cases hs))
  refine bd_env (ρ' := [.d (.list [.tuple [a, b]]), .d (PyData.int 0), .d (PyData.int 0), .d a, .d b]) rfl ?_
  by_cases hc0 : isNum a 0 1000000 = true
  case neg => exact bd_guard_end (sd_exprX (px_call (takes_of rfl rfl rfl rfl) (c_checked_number_1 Y) hr (.int (.int .nil)) (ad_cons (pd_var 3 rfl) ad_nil) ⟨a, 0, 1000000, rfl, ⟨nd.1, by decide, by decide⟩, chk_bad (by simpa using hc0)⟩) ⟨(), rfl, fun _ => ⟨rfl, rfl⟩⟩)
  refine bd_seq (sd_expr (pd_call (c_checked_number_1 Y) hr (.int (.int .nil)) (ad_cons (pd_var 3 rfl) ad_nil) ⟨a, 0, 1000000, rfl, ⟨nd.1, by decide, by decide⟩, chk_yes hc0⟩) rfl) ?_
  by_cases hc1 : isNum b 0 1000 = true
  case neg => exact bd_guard_end (sd_exprX (px_call (takes_of rfl rfl rfl rfl) (c_checked_number_3 Y) hr .nil (ad_cons (pd_var 4 rfl) (ad_cons pd_int (ad_cons pd_int ad_nil))) ⟨b, 0, 1000, rfl, ⟨nd.2, by decide, by decide⟩, chk_bad (by simpa using hc1)⟩) ⟨(), rfl, fun _ => ⟨rfl, rfl⟩⟩)
  rw [hc0, hc1] at hbad
  cases hbad
theorem c_mixed_bad (Y : Py K mg) : Cal P w K mg base 3 "mixed" (spD K (S_mixed_bad K)) [] := by
  obtain ⟨fd, F⟩ := Y.d_mixed
  exact ⟨_, fd, _, [], f_mixed_bad Y F, Y.g_mixed, F.kp, F.bindsN (ps := [("parts" : Str)]) fun _ _ _ _ _ _ us hl => match us, hl with | [_], _ => rfl, .nil⟩
def RefB (c : Int) (a b d : PyData) : Prop := (c = 0 ∧ (isNum a 0 1000000 && isNum b 0 1000 && isNum d 0 1000) = false) ∨ (c = 1 ∧ (isNum a 0 1000000 && isNum b 0 1000 && isNum d 0 1000) = false) ∨ (c = 2 ∧ (isNum a 0 1000000 && isNum b 0 1000 && isNum d 0 1000000) = false) ∨ (c = 3 ∧ (isNum a 0 1000000 && isNum b 0 1000) = false) ∨ (c = 4 ∧ (isNum a 0 1000000 && isNum b 0 1000 && isNum d 0 1000) = false)
def S_refused (ds : List PyData) (r : Res) : Prop := ∃ (c : Int) (a b d : PyData), ds = [.int c, a, b, d] ∧ ((isDct a = false ∧ isDct b = false ∧ isDct d = false) ∧ RefB c a b d) ∧ r = .ret (.bool true)
theorem f__law_refused (Y : Py K mg) {fd : FuncData} (F : FunD K "_law_refused" "_law_refused" (defArgs s__law_refused) (defBody s__law_refused) (defScope s__law_refused) [] [] (He.ga K "_law_refused") fd) : FnOk P w K mg base (L2.CX P w) 6 (He.ga K "_law_refused") fd [("choice" : Str), ("one" : Str), ("two" : Str), ("three" : Str)] (spD K S_refused) := by
  refine fn_DD F sc__law_refused (fun ds r h => by obtain ⟨_, _, _, _, rfl, _⟩ := h; rfl) (by decide) (fun cdv A outer s H E hr ds r h => ?_)
  obtain ⟨c, a, b, d, rfl, ⟨nd, hb⟩, rfl⟩ := h
  refine bd_env (ρ' := [.d (PyData.int c), .d a, .d b, .d d, .un]) rfl ?_
  refine bd_guard_end (sd_try_as 4 (c := .ref (He.ga K "GrainError")) (fun cls fs ρ' => cls = .ref (He.ga K "InvalidNumber") ∧ fs = [] ∧ ρ' = [.d (PyData.int c), .d a, .d b, .d d, .un]) rfl rfl sc__law_refused.nd ⟨rfl, by decide, .inl Y.x_GrainError.mg⟩ (takes_of rfl rfl rfl rfl) (fun W pn xe tk po => ?_) (fun cls fs ρ' hM => ?_) (fun cls fs ρ' hM => hM.2.1))
  · rcases hb with ⟨rfl, hb⟩ | ⟨rfl, hb⟩ | ⟨rfl, hb⟩ | ⟨rfl, hb⟩ | ⟨rfl, hb⟩
    · exact bd_one (sd_if (k := decide ((0 : Int) = 0)) (td_eqI (pd_var 0 rfl) pd_int) (fun _ => bd_one (sd_exprX (px_call tk (c_left Y) hr .nil (ad_cons (pd_var 1 rfl) (ad_cons (pd_var 2 rfl) (ad_cons (pd_var 3 rfl) ad_nil))) (.inr ⟨a, b, d, rfl, nd, hb, rfl⟩)) ⟨rfl, rfl, rfl⟩)) (fun h => absurd h (by decide)))
    · refine bd_one (sd_if (k := decide ((1 : Int) = 0)) (td_eqI (pd_var 0 rfl) pd_int) (fun h => absurd h (by decide)) (fun _ => ?_))
      exact bd_one (sd_if (k := decide ((1 : Int) = 1)) (td_eqI (pd_var 0 rfl) pd_int) (fun _ => bd_one (sd_exprX (px_call tk (c_needed Y) hr .nil (ad_cons (pd_var 1 rfl) (ad_cons (pd_var 2 rfl) (ad_cons (pd_var 3 rfl) ad_nil))) (.inr ⟨a, b, d, rfl, nd, hb, rfl⟩)) ⟨rfl, rfl, rfl⟩)) (fun h => absurd h (by decide)))
    · refine bd_one (sd_if (k := decide ((2 : Int) = 0)) (td_eqI (pd_var 0 rfl) pd_int) (fun h => absurd h (by decide)) (fun _ => ?_))
      refine bd_one (sd_if (k := decide ((2 : Int) = 1)) (td_eqI (pd_var 0 rfl) pd_int) (fun h => absurd h (by decide)) (fun _ => ?_))
      exact bd_one (sd_if (k := decide ((2 : Int) = 2)) (td_eqI (pd_var 0 rfl) pd_int) (fun _ => bd_one (sd_exprX (px_call tk (c_last_day Y) hr .nil (ad_cons (pd_var 1 rfl) (ad_cons (pd_var 2 rfl) (ad_cons (pd_var 3 rfl) ad_nil))) (.inr ⟨a, b, d, rfl, nd, hb, rfl⟩)) ⟨rfl, rfl, rfl⟩)) (fun h => absurd h (by decide)))
    · refine bd_one (sd_if (k := decide ((3 : Int) = 0)) (td_eqI (pd_var 0 rfl) pd_int) (fun h => absurd h (by decide)) (fun _ => ?_))
      refine bd_one (sd_if (k := decide ((3 : Int) = 1)) (td_eqI (pd_var 0 rfl) pd_int) (fun h => absurd h (by decide)) (fun _ => ?_))
      refine bd_one (sd_if (k := decide ((3 : Int) = 2)) (td_eqI (pd_var 0 rfl) pd_int) (fun h => absurd h (by decide)) (fun _ => ?_))
      exact bd_one (sd_if (k := decide ((3 : Int) = 3)) (td_eqI (pd_var 0 rfl) pd_int) (fun _ => bd_one (sd_exprX (px_call tk (c_mixed_bad Y) hr .nil (ad_cons (pd_n (pn_lst (ad_cons (pd_tup (ad_cons (pd_var 1 rfl) (ad_cons (pd_var 2 rfl) ad_nil))) ad_nil))) ad_nil) ⟨a, b, rfl, ⟨nd.1, nd.2.1⟩, hb, rfl⟩) ⟨rfl, rfl, rfl⟩)) (fun h => absurd h (by decide)))
    · refine bd_one (sd_if (k := decide ((4 : Int) = 0)) (td_eqI (pd_var 0 rfl) pd_int) (fun h => absurd h (by decide)) (fun _ => ?_))
      refine bd_one (sd_if (k := decide ((4 : Int) = 1)) (td_eqI (pd_var 0 rfl) pd_int) (fun h => absurd h (by decide)) (fun _ => ?_))
      refine bd_one (sd_if (k := decide ((4 : Int) = 2)) (td_eqI (pd_var 0 rfl) pd_int) (fun h => absurd h (by decide)) (fun _ => ?_))
      refine bd_one (sd_if (k := decide ((4 : Int) = 3)) (td_eqI (pd_var 0 rfl) pd_int) (fun h => absurd h (by decide)) (fun _ => ?_))
      exact bd_one (sd_exprX (px_call tk (c_dried Y) hr .nil (ad_cons (pd_var 1 rfl) (ad_cons (pd_var 2 rfl) (ad_cons (pd_var 3 rfl) ad_nil))) (.inr ⟨a, b, d, rfl, nd, hb, rfl⟩)) ⟨rfl, rfl, rfl⟩)
  · obtain ⟨rfl, rfl, rfl⟩ := hM
    refine ⟨true, Y.m_InvalidNumber_GrainError, fun _ a0 oe dd pn hz hf hd => ?_, fun h => nomatch h⟩
    have hd0 := hd rfl
    subst hd0
    exact bd_one (sd_ret (pd_and_t (pd_isX (vc := .ref (He.ga K "InvalidNumber")) 4 Y.e_InvalidNumber hz hf Y.k_InvalidNumber_InvalidNumber (fun u r => r) Y.z_isinstance rfl (pe_glob rfl Y.x_InvalidNumber.mg (v := .ref (He.ga K "InvalidNumber")) rfl)) (pd_one (pd_isX (vc := .ty "ValueError") 4 Y.e_InvalidNumber hz hf Y.k_InvalidNumber_ValueError (fun u r => r) Y.z_isinstance rfl (pe_cls Y.z_ValueError rfl)))) rfl)
theorem c__law_refused (Y : Py K mg) : Cal P w K mg base 6 "_law_refused" (spD K S_refused) [] := by
  obtain ⟨fd, F⟩ := Y.d__law_refused
  exact ⟨_, fd, _, [], f__law_refused Y F, Y.g__law_refused, F.kp, F.bindsN (ps := [("choice" : Str), ("one" : Str), ("two" : Str), ("three" : Str)]) fun _ _ _ _ _ _ us hl => match us, hl with | [_, _, _, _], _ => rfl, .nil⟩
end
end GP

namespace GP
open PySem PySem.Spec PyProof.Rows L2 G
section
variable {P : Program} {w : World} {K : PySem.W.Frag} {mg : Str → Option Value} {base : Heap}

theorem fold_const {α : Type} (g : Int → Int) (L : Int → Nat → Int) (h0 : ∀ a, L a 0 = a) (h1 : ∀ a n, L a (n + 1) = g (L a n)) (a : Int) : ∀ n : Nat, (List.range n).foldl (fun (s : Int) (_ : Nat) => g s) a = L a n
  | 0 => (h0 a).symm
  | n + 1 => by rw [List.range_succ, List.foldl_append, fold_const (α := α) g L h0 h1 a n, h1]; rfl
def lv (r : Int) (a : Int) : Nat → Int
  | 0 => a
  | n + 1 => gone (lv r a n) r
theorem left_eq (a r d : Int) : m_left a r d = lv r a d.toNat := fold_const (α := Unit) (fun s => gone s r) (lv r) (fun _ => rfl) (fun _ _ => rfl) a d.toNat
theorem lleft_eq (a r d : Int) : m__law_left a r d = lv r a d.toNat := by
  unfold m__law_left
  have e : (fun (s8 : Int) (a9 : Nat) => (let amount_13 : Int := (s8 - (if (decide ((((s8 * r) / 1000) * 1000) < (s8 * r))) = true then (((s8 * r) / 1000) + 1) else ((s8 * r) / 1000))); amount_13)) = fun (s : Int) (_ : Nat) => gone s r := by
    funext s _
    show s - _ = s - _
    rw [gone2]
  rw [e]
  exact fold_const (α := Unit) (fun s => gone s r) (lv r) (fun _ => rfl) (fun _ _ => rfl) a d.toNat
theorem gone_mono {r a b : Int} (h0 : 0 ≤ r) (h1 : r ≤ 1000) (h : a ≤ b) : gone a r ≤ gone b r := by
  have h2 : (b - a) * r ≤ (b - a) * 1000 := Int.mul_le_mul_of_nonneg_left h1 (by omega)
  rw [Int.sub_mul] at h2
  unfold gone
  omega
theorem lv_mono {r a b : Int} (h0 : 0 ≤ r) (h1 : r ≤ 1000) (h : a ≤ b) : ∀ n, lv r a n ≤ lv r b n
  | 0 => h
  | n + 1 => gone_mono h0 h1 (lv_mono h0 h1 h n)
theorem lv_shift (r a : Int) : ∀ n, lv r (gone a r) n = lv r a (n + 1)
  | 0 => rfl
  | n + 1 => by
    rw [lv, lv_shift r a n]
    rfl
theorem lv_bd {r a : Int} (h0 : 0 ≤ r) (h1 : r ≤ 1000) (h : 0 ≤ a) : ∀ n, 0 ≤ lv r a n ∧ lv r a n ≤ a
  | 0 => ⟨h, Int.le_refl _⟩
  | n + 1 => by
    have ih := lv_bd h0 h1 h n
    have := gone_bd ih.1 h0 h1
    rw [lv]
    unfold gone
    omega
theorem bs_ok (p : Int → Bool) (mono : ∀ x y, x ≤ y → p x = true → p y = true) : ∀ (n : Nat) (lo hi : Int), lo ≤ hi → hi - lo ≤ n → p hi = true → (lo = 0 ∨ p (lo - 1) = false) → 0 ≤ lo → p (bs p n lo hi) = true ∧ (bs p n lo hi = 0 ∨ p (bs p n lo hi - 1) = false) ∧ lo ≤ bs p n lo hi ∧ bs p n lo hi ≤ hi
  | 0, lo, hi, h1, h2, h3, h4, h5 => by
    have : lo = hi := by omega
    subst this
    exact ⟨h3, h4, Int.le_refl _, Int.le_refl _⟩
  | n + 1, lo, hi, h1, h2, h3, h4, h5 => by
    unfold bs
    by_cases q : lo < hi
    · rw [if_pos q]
      have hh : lo ≤ (lo + hi) / 2 ∧ (lo + hi) / 2 < hi := by omega
      generalize (lo + hi) / 2 = half at *
      by_cases z : p half = true
      · rw [if_pos z]
        obtain ⟨q1, q2, q3, q4⟩ := bs_ok p mono n lo half hh.1 (by omega) z h4 h5
        exact ⟨q1, q2, q3, by omega⟩
      · rw [if_neg z]
        obtain ⟨q1, q2, q3, q4⟩ := bs_ok p mono n (half + 1) hi (by omega) (by omega) h3 (.inr (by rw [show half + 1 - 1 = half by omega]; simpa using z)) (by omega)
        exact ⟨q1, q2, by omega, q4⟩
    · rw [if_neg q]
      have : lo = hi := by omega
      subst this
      exact ⟨h3, h4, Int.le_refl _, Int.le_refl _⟩
theorem needed_none {need r d : Int} (h : m_needed need r d = none) : lv r 1000000 d.toNat < need := by
  unfold m_needed at h
  split at h
  · rename_i q
    rw [left_eq] at q
    exact of_decide_eq_true q
  · cases h
theorem needed_some {need r d x : Int} (h0 : 0 ≤ r) (h1 : r ≤ 1000) (h : m_needed need r d = some x) : (0 ≤ x ∧ x ≤ 1000000) ∧ need ≤ lv r x d.toNat ∧ (0 < x → lv r (x - 1) d.toNat < need) := by
  unfold m_needed at h
  split at h
  · cases h
  · rename_i q
    rw [left_eq] at q
    have q : ¬ lv r 1000000 d.toNat < need := by simpa using q
    cases h
    have := bs_ok (fun h => decide (need ≤ m_left h r d)) (fun x y hxy hp => by
      simp only [decide_eq_true_eq, left_eq] at hp ⊢
      exact Int.le_trans hp (lv_mono h0 h1 hxy _)) 1000000 0 1000000 (by decide) (by decide) (by simp only [decide_eq_true_eq, left_eq]; omega) (.inl rfl) (by decide)
    obtain ⟨q1, q2, q3, q4⟩ := this
    simp only [left_eq, decide_eq_true_eq, decide_eq_false_iff_not] at q1 q2 q3 q4
    simp only [left_eq]
    refine ⟨⟨q3, q4⟩, q1, fun hx => ?_⟩
    rcases q2 with z | z
    · omega
    · omega
theorem ldF_ok {r need : Int} : ∀ (n : Nat) (a d : Int), need ≤ a → ∃ k : Nat, k ≤ n ∧ ldF r need n a d = d + k ∧ need ≤ lv r a k ∧ (k < n → lv r a (k + 1) < need)
  | 0, a, d, h => ⟨0, Nat.le_refl _, by simp [ldF], h, fun z => by omega⟩
  | n + 1, a, d, h => by
    by_cases q : need ≤ gone a r
    · obtain ⟨k, h1, h2, h3, h4⟩ := ldF_ok n (gone a r) (d + 1) q
      refine ⟨k + 1, by omega, ?_, by rw [← lv_shift]; exact h3, fun z => by rw [← lv_shift]; exact h4 (by omega)⟩
      rw [ldF, if_pos q, h2]
      omega
    · exact ⟨0, by omega, by rw [ldF, if_neg q]; simp, h, fun _ => by show gone a r < need; omega⟩
theorem last_none {a r need : Int} (h : m_last_day a r need = none) : a < need := by
  unfold m_last_day at h
  split at h
  · rename_i q; exact of_decide_eq_true q
  · cases h
theorem last_some {a r need e : Int} (h : m_last_day a r need = some e) : (0 ≤ e ∧ e ≤ 1000) ∧ need ≤ lv r a e.toNat ∧ (e < 1000 → lv r a (e + 1).toNat < need) := by
  unfold m_last_day at h
  split at h
  · cases h
  · rename_i q
    have q : need ≤ a := by simp at q; omega
    obtain ⟨k, h1, h2, h3, h4⟩ := ldF_ok (r := r) 1000 a 0 q
    cases h
    rw [h2, Int.zero_add, Int.toNat_natCast]
    refine ⟨by omega, h3, fun z => ?_⟩
    rw [show ((k : Int) + 1).toNat = k + 1 by omega]
    exact h4 (by omega)
theorem mix_fold : ∀ (xs : List (Int × Int)) (x y : Int), xs.foldl (fun (s101 : Int × Int) (a102 : (Int × Int)) => ((s101.1 + a102.1), (s101.2 + (a102.1 * a102.2)))) (x, y) = (x + (xs.map fun a => a.1).sum, y + (xs.map fun a => a.1 * a.2).sum)
  | [], x, y => by simp
  | p :: xs, x, y => by rw [List.foldl_cons, mix_fold xs]; simp; omega
theorem mixed_eq (xs : List (Int × Int)) : m_mixed xs = if (xs.map fun a => a.1).sum = 0 then (0, 0) else ((xs.map fun a => a.1).sum, ((xs.map fun a => a.1 * a.2).sum + (xs.map fun a => a.1).sum - 1) / (xs.map fun a => a.1).sum) := by
  unfold m_mixed
  rw [mix_fold]
  dsimp only
  rw [Int.zero_add, Int.zero_add]
  simp only [decide_eq_true_eq]
theorem foldl_filter {α β : Type} (c : α → Bool) (v : α → β) : ∀ (xs : List α) (f : List β), xs.foldl (fun s a => if c a = true then s ++ [v a] else s) f = f ++ (xs.filter c).map v
  | [], f => by simp
  | x :: xs, f => by
    rw [List.foldl_cons, List.filter_cons]
    by_cases q : c x = true
    · rw [if_pos q, if_pos q, foldl_filter c v xs]; simp
    · rw [if_neg q, if_neg q, foldl_filter c v xs]
theorem all_none {α : Type} (c : α → Bool) (f : α → Int) (xs : List α) : ((xs.map c).all fun b => b) = decide (((((xs.filter fun a => !c a).map f).length : Nat) : Int) = 0) := by
  rw [List.length_map]
  induction xs with
  | nil => rfl
  | cons x xs ih =>
    rw [List.map_cons, List.all_cons, List.filter_cons, ih]
    cases q : c x with
    | true => simp
    | false => simp; omega
/-- the rates that fit -/
def fits (s : List Int) : List Int := ((List.range 1001).filter (fun (a : Nat) => decide ((((((List.range (((s.length : Int)) - 1).toNat).filter (fun (b : Nat) => !(decide (m__law_left (gI s ((1 + (b : Int)) - 1)) (a : Int) 1 = gI s (1 + (b : Int)))))).map (fun (b : Nat) => 1 + (b : Int))).length : Nat) : Int) = 0))).map (fun (a : Nat) => (a : Int))
theorem rates_eq (s : List Int) : m_rates s = if (!(fits s).isEmpty) = true then some (gI (fits s) 0, gI (fits s) (-1)) else none := by
  unfold m_rates
  have e : (List.range 1001).foldl (fun (s110 : (List Int)) (a111 : Nat) => (if (((List.range (((s.length : Int)) - (1)).toNat).map (fun (a114 : Nat) => (decide ((m_left (gI s ((1 + (a114 : Int)) - 1)) (a111 : Int) 1) = (gI s (1 + (a114 : Int))))))).all (fun b => b)) = true then (s110 ++ [(a111 : Int)]) else s110)) [] = fits s := by
    rw [foldl_filter (fun (a111 : Nat) => (((List.range (((s.length : Int)) - (1)).toNat).map (fun (a114 : Nat) => (decide ((m_left (gI s ((1 + (a114 : Int)) - 1)) (a111 : Int) 1) = (gI s (1 + (a114 : Int))))))).all (fun b => b))) (fun a : Nat => (a : Int)), List.nil_append]
    unfold fits
    congr 2
    funext a
    rw [all_none _ (fun b : Nat => 1 + (b : Int))]
    simp only [left_eq, lleft_eq]
  rw [e]
theorem losing_eq (s : List Int) (h : ∀ x ∈ s, 0 ≤ x ∧ x ≤ 1000000000) : m_is_losing s = decide ((((((List.range (((s.length : Int)) - 1).toNat).filter (fun (b : Nat) => decide (gI s ((1 + (b : Int)) - 1) < gI s (1 + (b : Int))))).map (fun (b : Nat) => 1 + (b : Int))).length : Nat) : Int) = 0) := by
  unfold m_is_losing
  have e : s.filter (fun (a107 : Int) => (!(isNum (PyData.int a107) 0 (10 ^ (9 : Int).toNat)))) = [] := by
    rw [List.filter_eq_nil_iff]
    intro x hx
    have := h x hx
    rw [isNum_int]
    have e9 : (10 : Int) ^ (9 : Int).toNat = 1000000000 := by decide
    rw [e9]
    simp
    omega
  rw [e]
  rw [if_neg (by simp), all_none _ (fun b : Nat => 1 + (b : Int))]
  have e2 : (fun (a : Nat) => !decide (gI s (1 + (a : Int)) ≤ gI s ((1 + (a : Int)) - 1))) = fun (b : Nat) => decide (gI s ((1 + (b : Int)) - 1) < gI s (1 + (b : Int))) := by
    funext a
    by_cases z : gI s (1 + (a : Int)) ≤ gI s ((1 + (a : Int)) - 1)
    · rw [decide_eq_true z, decide_eq_false (by omega)]; rfl
    · rw [decide_eq_false z, decide_eq_true (by omega)]; rfl
  rw [e2]
theorem losing_bad (s : List Int) : m_is_losing (s ++ [-1]) = false := by
  unfold m_is_losing
  rw [if_pos]
  rw [Bool.not_eq_true', List.isEmpty_eq_false_iff]
  intro h
  have := List.map_eq_nil_iff.mp h
  rw [List.filter_eq_nil_iff] at this
  exact this (-1) (by simp) (by decide)
end
end GP

namespace GP
open PySem PySem.Spec PyProof.Rows L2 G
section
variable {P : Program} {w : World} {K : PySem.W.Frag} {mg : Str → Option Value} {base : Heap}

theorem drw (p : Pool) (n : Int) (hn : 0 < n) (h : 0 ≤ p.a) : ∃ r : Int × Pool, r = drawP p n ∧ (0 ≤ r.1 ∧ r.1 < n) ∧ 0 ≤ r.2.a := ⟨_, rfl, draw_bd p hn, draw_a p n h⟩
def SErr (xs ds : List PyData) (y : PyData) (xs' : List PyData) : Prop := ∃ p : Pool, xs = pl p ∧ ds = [] ∧ 0 ≤ p.a ∧ y = .bool true ∧ xs' = pl (drawP (drawP p 3).2 3).2
theorem c__law_errors_right (Y : Py K mg) : Cal P w K mg base 7 "_law_errors_right" (spO K SErr) [] := by
  obtain ⟨fd, F⟩ := Y.d__law_errors_right
  have bb := F.bindsN (ps := ["pool"]) fun _ _ _ _ _ _ us hl => match us, hl with | [_], _ => rfl
  refine ⟨_, fd, _, [], fn_OD F sc__law_errors_right (fun xs ds y xs' h => by obtain ⟨_, _, rfl, _⟩ := h; rfl) (by decide) (fun cdv A outer s H E hr l xs ds y xs' h => ?_), Y.g__law_errors_right, F.kp, bb, .nil⟩
  obtain ⟨p, rfl, rfl, a0, rfl, rfl⟩ := h
  obtain ⟨r1, h1, b1, a1⟩ := drw p 3 (by decide) a0
  obtain ⟨r2, h2, b2, a2⟩ := drw r1.2 3 (by decide) a1
  rw [← h1, ← h2]
  obtain ⟨dA, eA, nA, hA⟩ : ∃ d, ([PyData.int (-1), PyData.int 1000001, PyData.bool true] : List PyData)[r1.1.toNat]? = some d ∧ isDct d = false ∧ isNum d 0 1000000 = false := by
    have : r1.1 = 0 ∨ r1.1 = 1 ∨ r1.1 = 2 := by omega
    rcases this with e | e | e <;> rw [e]
    · exact ⟨_, rfl, rfl, by decide⟩
    · exact ⟨_, rfl, rfl, by decide⟩
    · exact ⟨_, rfl, rfl, by decide⟩
  obtain ⟨dR, eR, nR, hR⟩ : ∃ d, ([PyData.int (-1), PyData.int 1001, PyData.bool true] : List PyData)[r2.1.toNat]? = some d ∧ isDct d = false ∧ isNum d 0 1000 = false := by
    have : r2.1 = 0 ∨ r2.1 = 1 ∨ r2.1 = 2 := by omega
    rcases this with e | e | e <;> rw [e]
    · exact ⟨_, rfl, rfl, by decide⟩
    · exact ⟨_, rfl, rfl, by decide⟩
    · exact ⟨_, rfl, rfl, by decide⟩
  refine bd_seq (sd_set 1 (pd_callO (y := dA) 0 (c__law_pick Y) hr .nil rfl (ad_cons (pd_n (pn_lst (ad_cons (pd_neg pd_int) (ad_cons pd_int (ad_cons pd_bl ad_nil))))) ad_nil) rfl ⟨p, _, r1, rfl, rfl, ⟨by simp, by simp, a0⟩, h1, eA, rfl⟩) rfl sc__law_errors_right.nd) ?_
  refine bd_seq (sd_set 2 (pd_callO (y := dR) 0 (c__law_pick Y) hr .nil rfl (ad_cons (pd_n (pn_lst (ad_cons (pd_neg pd_int) (ad_cons pd_int (ad_cons pd_bl ad_nil))))) ad_nil) rfl ⟨r1.2, _, r2, rfl, rfl, ⟨by simp, by simp, a1⟩, h2, eR, rfl⟩) rfl sc__law_errors_right.nd) ?_
  refine bd_env (ρ' := [.o (some l) (.l (pl r2.2)), .d dA, .d dR, .un]) rfl ?_
  have R : ∀ (c a b d : PyData) (i : Int), True := fun _ _ _ _ _ => trivial
  refine bd_cut (fun r => Le [.o (some l) (.l (pl r2.2)), .d dA, .d dR, .un] r) (sd_forF (List.range 5) (fun i : Nat => PyData.int (i : Int)) (fun _ : Unit => [.o (some l) (.l (pl r2.2)), .d dA, .d dR, .un]) (fun _ _ => ()) () (fun _ _ => True) (passes_of rfl) rfl (id_range0 (n := 5) Y.z_range pd_int (by decide)) (Le.refl _) trivial (fun _ => trivial) (fun i u a ha hu pv => ⟨_, gd_name 3 sc__law_errors_right.nd, ?_⟩) (fun _ _ _ => Le.refl _)) (fun r hle => bd_le hle ?_)
  · have ha5 : a < 5 := List.mem_range.mp (List.mem_of_getElem? ha)
    have hr1 : RefB (a : Int) dA (.int 5) (.int 5) := by
      have : a = 0 ∨ a = 1 ∨ a = 2 ∨ a = 3 ∨ a = 4 := by omega
      rcases this with rfl | rfl | rfl | rfl | rfl <;> simp [RefB, hA]
    have hr2 : RefB (a : Int) (.int 5) dR (.int 5) := by
      have : a = 0 ∨ a = 1 ∨ a = 2 ∨ a = 3 ∨ a = 4 := by omega
      rcases this with rfl | rfl | rfl | rfl | rfl <;> simp [RefB, hR]
    refine bd_one (sd_if (k := !true || !true) (td_w (wd_or (td_not (td_val (pd_call (c__law_refused Y) hr .nil (ad_cons (pd_var 3 rfl) (ad_cons (pd_var 1 rfl) (ad_cons pd_int (ad_cons pd_int ad_nil)))) ⟨_, _, _, _, rfl, ⟨⟨nA, rfl, rfl⟩, hr1⟩, rfl⟩))) fun _ => wd_or1 (td_not (td_val (pd_call (c__law_refused Y) hr .nil (ad_cons (pd_var 3 rfl) (ad_cons pd_int (ad_cons (pd_var 2 rfl) (ad_cons pd_int ad_nil)))) ⟨_, _, _, _, rfl, ⟨⟨rfl, nR, rfl⟩, hr2⟩, rfl⟩))))) (fun h => nomatch h) (fun _ => bd_nil ⟨(by repeat (first | exact Le.nil | apply Le.eq | apply Le.un)), trivial⟩))
  refine bd_cut (fun r => Le [.o (some l) (.l (pl r2.2)), .d dA, .d dR, .un] r) (sd_forF ([0, 1] : List Int) PyData.int (fun _ : Unit => [.o (some l) (.l (pl r2.2)), .d dA, .d dR, .un]) (fun _ _ => ()) () (fun _ _ => True) (passes_of rfl) rfl (id_tup (pd_tup (ad_cons pd_int (ad_cons pd_int ad_nil)))) (Le.refl _) trivial (fun _ => trivial) (fun i u a ha hu pv => ⟨_, gd_name 3 sc__law_errors_right.nd, ?_⟩) (fun _ _ _ => Le.refl _)) (fun r hle => bd_le hle ?_)
  · have ha5 : a = 0 ∨ a = 1 := by
      have := List.mem_of_getElem? ha
      simpa using this
    have hr1 : RefB a (.int 5) (.int 5) dR := by rcases ha5 with rfl | rfl <;> simp [RefB, hR]
    refine bd_one (sd_if (k := !true) (td_not (td_val (pd_call (c__law_refused Y) hr .nil (ad_cons (pd_var 3 rfl) (ad_cons pd_int (ad_cons pd_int (ad_cons (pd_var 2 rfl) ad_nil)))) ⟨_, _, _, _, rfl, ⟨⟨rfl, rfl, nR⟩, hr1⟩, rfl⟩))) (fun h => nomatch h) (fun _ => bd_nil ⟨(by repeat (first | exact Le.nil | apply Le.eq | apply Le.un)), trivial⟩))
  have q1 : RefB 2 (.int 5) (.int 5) dA := by simp [RefB, hA]
  have q2 : RefB 4 (.int 5) (.int 5) dR := by simp [RefB, hR]
  exact bd_one (sd_ret (pd_and_t (pd_call (c__law_refused Y) hr .nil (ad_cons pd_int (ad_cons pd_int (ad_cons pd_int (ad_cons (pd_var 1 rfl) ad_nil)))) ⟨_, _, _, _, rfl, ⟨⟨rfl, rfl, nA⟩, q1⟩, rfl⟩) (pd_one (pd_call (c__law_refused Y) hr .nil (ad_cons pd_int (ad_cons pd_int (ad_cons pd_int (ad_cons (pd_var 2 rfl) ad_nil)))) ⟨_, _, _, _, rfl, ⟨⟨rfl, rfl, nR⟩, q2⟩, rfl⟩))) ⟨rfl, rfl⟩)
end
end GP

namespace GP
open PySem PySem.Spec PyProof.Rows L2 G
section
variable {P : Program} {w : World} {K : PySem.W.Frag} {mg : Str → Option Value} {base : Heap}

theorem pd_isB {X : Cx} {a b : Expr} {pos : Pos} {ρ ρ1 ρ2 : En} {i j : Bool} (ha : PD X a ρ (.bool i) ρ1) (hb : PD X b ρ1 (.bool j) ρ2) : PD X (.Compare a [.Is] [b] pos) ρ (.bool (decide (i = j))) ρ2 :=
  pd_cmp op_is_bl (fun F H v w Q e r1 r2 q => ⟨i, j, rp_bool r1, rp_bool r2, q _ F H (.refl e) (.bl _)⟩) ha hb (nomark _)
theorem nice_pair {a b : Int} : Nice 1 (dT2 PyData.int PyData.int (a, b)) := .tup (by simp) fun z hz => by
  simp at hz
  rcases hz with rfl | rfl <;> exact .int _
theorem scan_mem2 {S α β : Type} (step : S → α → S) (keep : S → α → Bool) (val : S → α → β) (P : β → Prop) (h : ∀ s a, P (val s a)) : ∀ (xs : List α) (s : S), ∀ y ∈ scanV step keep val s xs, P y
  | [], _, y, hy => by cases hy
  | a :: xs, s, y, hy => by
    unfold scanV at hy
    split at hy
    · rcases List.mem_cons.mp hy with e | e
      · rw [e]; exact h s a
      · exact scan_mem2 step keep val P h xs _ y e
    · exact scan_mem2 step keep val P h xs _ y hy
theorem scan_len2 {S α β : Type} (step : S → α → S) (keep : S → α → Bool) (val : S → α → β) : ∀ (xs : List α) (s : S), (scanV step keep val s xs).length ≤ xs.length
  | [], _ => Nat.le_refl _
  | a :: xs, s => by
    unfold scanV
    have := scan_len2 step keep val xs (step s a)
    split <;> simp <;> omega
theorem pair_fold_a : ∀ (xs : List Nat) (q : Pool), 0 ≤ q.a → 0 ≤ (xs.foldl (fun (q : Pool) (_ : Nat) => (drawP (drawP q 50).2 1001).2) q).a
  | [], q, h => h
  | _ :: xs, q, h => pair_fold_a xs _ (draw_a _ 1001 (draw_a q 50 h))
theorem sum_bd (B : Int) : ∀ (xs : List Int), (∀ x ∈ xs, 0 ≤ x ∧ x ≤ B) → 0 ≤ xs.sum ∧ xs.sum ≤ B * xs.length
  | [], _ => by simp
  | x :: xs, h => by
    have h1 := h x List.mem_cons_self
    have h2 := sum_bd B xs fun y hy => h y (List.mem_cons_of_mem _ hy)
    rw [List.sum_cons, List.length_cons, Int.natCast_succ, Int.mul_add, Int.mul_one]
    omega
theorem law_fn {fd : FuncData} (F : FunD K "law" "law" (defArgs s_law) (defBody s_law) (defScope s_law) [] [] (He.ga K "law") fd) (Y : Py K mg) : FnOk P w K mg base (L2.CX P w) 20 (He.ga K "law") fd ["script"] (spD K LawS) := by
  refine fn_DD F sc_law (fun ds r h => by obtain ⟨_, rfl, _⟩ := h; rfl) (by decide) (fun cdv A outer s H E hr ds r h => ?_)
  obtain ⟨ns, rfl, hl, rfl⟩ := h
  refine bd_seq (sd_setN 1 (pn_call (c__law_pool Y) hr .nil (ad_cons (pd_var 0 rfl) ad_nil) ⟨ns, rfl, rfl⟩) rfl sc_law.nd) ?_
  have a_p0 : (0 : Int) ≤ (⟨ns, 0, 0, 0, 0⟩ : Pool).a := Int.le_refl _
  generalize (⟨ns, 0, 0, 0, 0⟩ : Pool) = p0 at a_p0 ⊢
  refine bd_env (ρ' := [.d (dL PyData.int ns), .o none (.l (pl p0)), .un, .un, .un, .un, .un, .un, .un, .un, .un, .un, .un, .un, .un, .un, .un, .un, .un, .un, .un]) rfl ?_
  refine bd_cut (fun r => ∃ q : Pool, 0 ≤ q.a ∧ Le [.d (dL PyData.int ns), .o none (.l (pl q)), .un, .un, .un, .un, .un, .un, .un, .un, .un, .un, .un, .un, .un, .un, .un, .un, .un, .un, .un] r) (sd_for (fun i r => ∃ q : Pool, 0 ≤ q.a ∧ r = [.d (dL PyData.int ns), .o none (.l (pl q)), .un, .un, .un, .un, .un, .un, .un, .un, .un, .un, .un, .un, .un, .un, .un, .un, .un, .un, .un]) (passes_of rfl) rfl (id_range0 (n := 3) Y.z_range pd_int (by decide)) ⟨_, (by repeat (first | exact Le.nil | apply Le.eq | apply Le.un)), p0, a_p0, rfl⟩ (fun _ _ _ => trivial) (fun i d r hd hI => ?_) (fun r ⟨q, h1, h2⟩ => ⟨q, h1, h2 ▸ Le.refl _⟩)) ?_
  · obtain ⟨q, a_q, rfl⟩ := hI
    refine ⟨_, gd_name 2 sc_law.nd, ?_⟩
    rw [List.getElem?_map] at hd
    obtain ⟨kk, hkk, rfl⟩ := Option.map_eq_some_iff.mp hd
    refine bd_env (ρ' := [.d (dL PyData.int ns), .o none (.l (pl q)), .d (PyData.int (kk : Int)), .un, .un, .un, .un, .un, .un, .un, .un, .un, .un, .un, .un, .un, .un, .un, .un, .un, .un]) rfl ?_
    obtain ⟨r1, h_r1, b_r1, a_r1⟩ := drw q 60 (by omega) a_q
    obtain ⟨r2, h_r2, b_r2, a_r2⟩ := drw r1.2 5000 (by omega) a_r1
    obtain ⟨r3, h_r3, b_r3, a_r3⟩ := drw r2.2 4 (by omega) a_r2
    obtain ⟨am, e1, am0, am1⟩ : ∃ v : Int, ([PyData.int r1.1, PyData.int r2.1, PyData.int 1000000, PyData.int 0] : List PyData)[r3.1.toNat]? = some (PyData.int v) ∧ 0 ≤ v ∧ v ≤ 1000000 := by
      have : r3.1 = 0 ∨ r3.1 = 1 ∨ r3.1 = 2 ∨ r3.1 = 3 := by omega
      rcases this with e | e | e | e <;> rw [e]
      · exact ⟨_, rfl, by omega, by omega⟩
      · exact ⟨_, rfl, by omega, by omega⟩
      · exact ⟨_, rfl, by omega, by omega⟩
      · exact ⟨_, rfl, by omega, by omega⟩
    refine bd_seq (sd_set 3 (pd_callO (y := PyData.int am) 1 (c__law_pick Y) hr .nil rfl (ad_cons (pd_n (pn_lst (ad_cons (pd_callO 1 (c__law_draw Y) hr .nil rfl (ad_cons pd_int ad_nil) rfl ⟨q, 60, r1, rfl, rfl, ⟨by omega, by omega, a_q⟩, h_r1, rfl, rfl⟩) (ad_cons (pd_callO 1 (c__law_draw Y) hr .nil rfl (ad_cons pd_int ad_nil) rfl ⟨r1.2, 5000, r2, rfl, rfl, ⟨by omega, by omega, a_r1⟩, h_r2, rfl, rfl⟩) (ad_cons pd_int (ad_cons pd_int ad_nil)))))) ad_nil) rfl ⟨r2.2, _, r3, rfl, rfl, ⟨by simp, by simp, a_r2⟩, h_r3, e1, rfl⟩) rfl sc_law.nd) ?_
    refine bd_env (ρ' := [.d (dL PyData.int ns), .o none (.l (pl r3.2)), .d (PyData.int (kk : Int)), .d (PyData.int am), .un, .un, .un, .un, .un, .un, .un, .un, .un, .un, .un, .un, .un, .un, .un, .un, .un]) rfl ?_
    obtain ⟨r4, h_r4, b_r4, a_r4⟩ := drw r3.2 1001 (by omega) a_r3
    obtain ⟨r5, h_r5, b_r5, a_r5⟩ := drw r4.2 30 (by omega) a_r4
    obtain ⟨r6, h_r6, b_r6, a_r6⟩ := drw r5.2 5 (by omega) a_r5
    obtain ⟨ra, e2, ra0, ra1⟩ : ∃ v : Int, ([PyData.int 0, PyData.int 1, PyData.int r4.1, PyData.int (10 * r5.1), PyData.int 1000] : List PyData)[r6.1.toNat]? = some (PyData.int v) ∧ 0 ≤ v ∧ v ≤ 1000 := by
      have : r6.1 = 0 ∨ r6.1 = 1 ∨ r6.1 = 2 ∨ r6.1 = 3 ∨ r6.1 = 4 := by omega
      rcases this with e | e | e | e | e <;> rw [e]
      · exact ⟨_, rfl, by omega, by omega⟩
      · exact ⟨_, rfl, by omega, by omega⟩
      · exact ⟨_, rfl, by omega, by omega⟩
      · exact ⟨_, rfl, by omega, by omega⟩
      · exact ⟨_, rfl, by omega, by omega⟩
    refine bd_seq (sd_set 4 (pd_callO (y := PyData.int ra) 1 (c__law_pick Y) hr .nil rfl (ad_cons (pd_n (pn_lst (ad_cons pd_int (ad_cons pd_int (ad_cons (pd_callO 1 (c__law_draw Y) hr .nil rfl (ad_cons pd_int ad_nil) rfl ⟨r3.2, 1001, r4, rfl, rfl, ⟨by omega, by omega, a_r3⟩, h_r4, rfl, rfl⟩) (ad_cons (pd_mul (.inl (by decide)) pd_int (pd_callO 1 (c__law_draw Y) hr .nil rfl (ad_cons pd_int ad_nil) rfl ⟨r4.2, 30, r5, rfl, rfl, ⟨by omega, by omega, a_r4⟩, h_r5, rfl, rfl⟩)) (ad_cons pd_int ad_nil))))))) ad_nil) rfl ⟨r5.2, _, r6, rfl, rfl, ⟨by simp, by simp, a_r5⟩, h_r6, e2, rfl⟩) rfl sc_law.nd) ?_
    refine bd_env (ρ' := [.d (dL PyData.int ns), .o none (.l (pl r6.2)), .d (PyData.int (kk : Int)), .d (PyData.int am), .d (PyData.int ra), .un, .un, .un, .un, .un, .un, .un, .un, .un, .un, .un, .un, .un, .un, .un, .un]) rfl ?_
    obtain ⟨r7, h_r7, b_r7, a_r7⟩ := drw r6.2 12 (by omega) a_r6
    obtain ⟨r8, h_r8, b_r8, a_r8⟩ := drw r7.2 40 (by omega) a_r7
    obtain ⟨r9, h_r9, b_r9, a_r9⟩ := drw r8.2 4 (by omega) a_r8
    obtain ⟨dy, e3, dy0, dy1⟩ : ∃ v : Int, ([PyData.int 0, PyData.int 1, PyData.int r7.1, PyData.int r8.1] : List PyData)[r9.1.toNat]? = some (PyData.int v) ∧ 0 ≤ v ∧ v ≤ 1000 := by
      have : r9.1 = 0 ∨ r9.1 = 1 ∨ r9.1 = 2 ∨ r9.1 = 3 := by omega
      rcases this with e | e | e | e <;> rw [e]
      · exact ⟨_, rfl, by omega, by omega⟩
      · exact ⟨_, rfl, by omega, by omega⟩
      · exact ⟨_, rfl, by omega, by omega⟩
      · exact ⟨_, rfl, by omega, by omega⟩
    refine bd_seq (sd_set 5 (pd_callO (y := PyData.int dy) 1 (c__law_pick Y) hr .nil rfl (ad_cons (pd_n (pn_lst (ad_cons pd_int (ad_cons pd_int (ad_cons (pd_callO 1 (c__law_draw Y) hr .nil rfl (ad_cons pd_int ad_nil) rfl ⟨r6.2, 12, r7, rfl, rfl, ⟨by omega, by omega, a_r6⟩, h_r7, rfl, rfl⟩) (ad_cons (pd_callO 1 (c__law_draw Y) hr .nil rfl (ad_cons pd_int ad_nil) rfl ⟨r7.2, 40, r8, rfl, rfl, ⟨by omega, by omega, a_r7⟩, h_r8, rfl, rfl⟩) ad_nil)))))) ad_nil) rfl ⟨r8.2, _, r9, rfl, rfl, ⟨by simp, by simp, a_r8⟩, h_r9, e3, rfl⟩) rfl sc_law.nd) ?_
    refine bd_env (ρ' := [.d (dL PyData.int ns), .o none (.l (pl r9.2)), .d (PyData.int (kk : Int)), .d (PyData.int am), .d (PyData.int ra), .d (PyData.int dy), .un, .un, .un, .un, .un, .un, .un, .un, .un, .un, .un, .un, .un, .un, .un]) rfl ?_
    have pr0 : (0 ≤ am ∧ am ≤ 1000000) ∧ (0 ≤ ra ∧ ra ≤ 1000) ∧ (0 ≤ dy ∧ dy ≤ 1000) := by omega
    have lb := lv_bd ra0 ra1 am0 dy.toNat
    refine bd_seq (sd_set 6 (pd_cast (congrArg PyData.int (lleft_eq am ra dy)) (pd_call (c__law_left Y) hr .nil (ad_cons (pd_var 3 rfl) (ad_cons (pd_var 4 rfl) (ad_cons (pd_var 5 rfl) ad_nil))) ⟨_, _, _, rfl, pr0, rfl⟩)) rfl sc_law.nd) ?_
    have hrest : m_left am ra dy = lv ra am dy.toNat := left_eq am ra dy
    generalize lv ra am dy.toNat = rest at hrest lb ⊢
    refine bd_env (ρ' := [.d (dL PyData.int ns), .o none (.l (pl r9.2)), .d (PyData.int (kk : Int)), .d (PyData.int am), .d (PyData.int ra), .d (PyData.int dy), .d (PyData.int rest), .un, .un, .un, .un, .un, .un, .un, .un, .un, .un, .un, .un, .un, .un]) rfl ?_
    refine bd_guard (k := !true) (td_not (td_val (pd_call (c__law_same Y 0) hr .nil (ad_cons (pd_cast (congrArg PyData.int hrest) (pd_call (c_left Y) hr .nil (ad_cons (pd_var 3 rfl) (ad_cons (pd_var 4 rfl) (ad_cons (pd_var 5 rfl) ad_nil))) (.inl ⟨am, ra, dy, rfl, pr0, rfl⟩))) (ad_cons (pd_var 6 rfl) ad_nil)) ⟨_, rfl, .int _, rfl⟩))) (fun h => nomatch h) (fun _ => ?_)
    obtain ⟨s1, h_s1, b_s1, a_s1⟩ := drw r9.2 50 (by omega) a_r9
    obtain ⟨s2, h_s2, b_s2, a_s2⟩ := drw s1.2 4 (by omega) a_s1
    obtain ⟨nd0, e4, nd00⟩ : ∃ v : Int, ([PyData.int rest, PyData.int (rest + 1), PyData.int s1.1, PyData.int 0] : List PyData)[s2.1.toNat]? = some (PyData.int v) ∧ 0 ≤ v := by
      have : s2.1 = 0 ∨ s2.1 = 1 ∨ s2.1 = 2 ∨ s2.1 = 3 := by omega
      rcases this with e | e | e | e <;> rw [e]
      · exact ⟨_, rfl, by omega⟩
      · exact ⟨_, rfl, by omega⟩
      · exact ⟨_, rfl, by omega⟩
      · exact ⟨_, rfl, by omega⟩
    refine bd_seq (sd_set 7 (pd_callO (y := PyData.int nd0) 1 (c__law_pick Y) hr .nil rfl (ad_cons (pd_n (pn_lst (ad_cons (pd_var 6 rfl) (ad_cons (pd_add (pd_var 6 rfl) pd_int) (ad_cons (pd_callO 1 (c__law_draw Y) hr .nil rfl (ad_cons pd_int ad_nil) rfl ⟨r9.2, 50, s1, rfl, rfl, ⟨by omega, by omega, a_r9⟩, h_s1, rfl, rfl⟩) (ad_cons pd_int ad_nil)))))) ad_nil) rfl ⟨s1.2, _, s2, rfl, rfl, ⟨by simp, by simp, a_s1⟩, h_s2, e4, rfl⟩) rfl sc_law.nd) ?_
    refine bd_seq (sd_set 7 (pd_min2 rfl Y.z_min (pd_var 7 rfl) pd_int) rfl sc_law.nd) ?_
    have hnd : 0 ≤ min nd0 1000000 ∧ min nd0 1000000 ≤ 1000000 := by omega
    generalize min nd0 1000000 = need at hnd ⊢
    refine bd_env (ρ' := [.d (dL PyData.int ns), .o none (.l (pl s2.2)), .d (PyData.int (kk : Int)), .d (PyData.int am), .d (PyData.int ra), .d (PyData.int dy), .d (PyData.int rest), .d (PyData.int need), .un, .un, .un, .un, .un, .un, .un, .un, .un, .un, .un, .un, .un]) rfl ?_
    refine bd_seq (sd_set 8 (pd_call (c_needed Y) hr .nil (ad_cons (pd_var 7 rfl) (ad_cons (pd_var 4 rfl) (ad_cons (pd_var 5 rfl) ad_nil))) (.inl ⟨need, ra, dy, rfl, by omega, rfl⟩)) rfl sc_law.nd) ?_
    obtain ⟨le, hle⟩ : ∃ v, v = m_needed need ra dy := ⟨_, rfl⟩
    rw [← hle]
    refine bd_env (ρ' := [.d (dL PyData.int ns), .o none (.l (pl s2.2)), .d (PyData.int (kk : Int)), .d (PyData.int am), .d (PyData.int ra), .d (PyData.int dy), .d (PyData.int rest), .d (PyData.int need), .d (dO PyData.int le), .un, .un, .un, .un, .un, .un, .un, .un, .un, .un, .un, .un]) rfl ?_
    refine bd_cut (fun r => Le [.d (dL PyData.int ns), .o none (.l (pl s2.2)), .d (PyData.int (kk : Int)), .d (PyData.int am), .d (PyData.int ra), .d (PyData.int dy), .d (PyData.int rest), .d (PyData.int need), .d (dO PyData.int le), .un, .un, .un, .un, .un, .un, .un, .un, .un, .un, .un, .un] r) (sd_if (k := le.isNone) (td_cast (isN_dO _ (by intro _; rfl)) (td_isN (pd_var 8 rfl))) (fun hk => ?_) (fun hk => ?_)) (fun r hle2 => bd_le hle2 ?_)
    · cases le with
      | some _ => cases hk
      | none =>
        have z := needed_none hle.symm
        exact bd_one (sd_if (k := decide (need ≤ m__law_left 1000000 ra dy)) (td_ge (pd_call (c__law_left Y) hr .nil (ad_cons pd_int (ad_cons (pd_var 4 rfl) (ad_cons (pd_var 5 rfl) ad_nil))) ⟨_, _, _, rfl, by omega, rfl⟩) (pd_var 7 rfl)) (fun h => absurd (of_decide_eq_true h) (by rw [lleft_eq]; omega)) (fun _ => bd_nil (Le.refl _)))
    · cases le with
      | none => cases hk
      | some x =>
        obtain ⟨⟨x0, x1⟩, z1, z2⟩ := needed_some ra0 ra1 hle.symm
        refine bd_env (ρ' := [.d (dL PyData.int ns), .o none (.l (pl s2.2)), .d (PyData.int (kk : Int)), .d (PyData.int am), .d (PyData.int ra), .d (PyData.int dy), .d (PyData.int rest), .d (PyData.int need), .d (PyData.int x), .un, .un, .un, .un, .un, .un, .un, .un, .un, .un, .un, .un]) rfl ?_
        refine bd_guard (k := false || (!(decide (0 ≤ x) && decide (x ≤ 1000000)) || decide (m__law_left x ra dy < need))) (td_w (wd_or (td_val (pd_isi (x := .int x) (T := "bool") (k := false) rfl (show kitB "int" "bool" = some false by decide +kernel) Y.z_isinstance (pe_cls Y.z_bool rfl) (pd_var 8 rfl))) fun _ => wd_or (td_not (td_chain (f := fun i j => decide (i ≤ j)) (g := fun i j => decide (i ≤ j)) (i := 0) (j := x) (l := 1000000) rfl rfl pd_int (pd_var 8 rfl) (fun _ => pd_int))) fun _ => wd_or1 (td_lt (pd_call (c__law_left Y) hr .nil (ad_cons (pd_var 8 rfl) (ad_cons (pd_var 4 rfl) (ad_cons (pd_var 5 rfl) ad_nil))) ⟨_, _, _, rfl, by omega, rfl⟩) (pd_var 7 rfl)))) (fun h => absurd h (by rw [lleft_eq]; simp; omega)) (fun _ => ?_)
        refine bd_one (sd_if (k := decide (0 < x) && decide (need ≤ m__law_left (x - 1) ra dy)) (td_w (wd_and (td_gt (pd_var 8 rfl) pd_int) fun hw => wd_and1 (td_ge (pd_call (c__law_left Y) hr .nil (ad_cons (pd_sub (pd_var 8 rfl) pd_int) (ad_cons (pd_var 4 rfl) (ad_cons (pd_var 5 rfl) ad_nil))) ⟨_, _, _, rfl, by have := of_decide_eq_true hw; omega, rfl⟩) (pd_var 7 rfl)))) (fun h => ?_) (fun _ => bd_nil (Le.refl _)))
        exfalso
        obtain ⟨q1, q2⟩ := Bool.and_eq_true_iff.mp h
        have q1 := of_decide_eq_true q1
        have q2 := of_decide_eq_true q2
        rw [lleft_eq] at q2
        have := z2 q1
        omega
    refine bd_seq (sd_set 9 (pd_call (c_last_day Y) hr .nil (ad_cons (pd_var 3 rfl) (ad_cons (pd_var 4 rfl) (ad_cons (pd_var 7 rfl) ad_nil))) (.inl ⟨am, ra, need, rfl, by omega, rfl⟩)) rfl sc_law.nd) ?_
    obtain ⟨da, hda⟩ : ∃ v, v = m_last_day am ra need := ⟨_, rfl⟩
    rw [← hda]
    refine bd_env (ρ' := [.d (dL PyData.int ns), .o none (.l (pl s2.2)), .d (PyData.int (kk : Int)), .d (PyData.int am), .d (PyData.int ra), .d (PyData.int dy), .d (PyData.int rest), .d (PyData.int need), .d (dO PyData.int le), .d (dO PyData.int da), .un, .un, .un, .un, .un, .un, .un, .un, .un, .un, .un]) rfl ?_
    have fin : Le [.d (dL PyData.int ns), .o none (.l (pl s2.2)), .un, .un, .un, .un, .un, .un, .un, .un, .un, .un, .un, .un, .un, .un, .un, .un, .un, .un, .un] [.d (dL PyData.int ns), .o none (.l (pl s2.2)), .d (PyData.int (kk : Int)), .d (PyData.int am), .d (PyData.int ra), .d (PyData.int dy), .d (PyData.int rest), .d (PyData.int need), .d (dO PyData.int le), .d (dO PyData.int da), .un, .un, .un, .un, .un, .un, .un, .un, .un, .un, .un] := (by repeat (first | exact Le.nil | apply Le.eq | apply Le.un))
    refine bd_one (sd_if (k := da.isNone) (td_cast (isN_dO _ (by intro _; rfl)) (td_isN (pd_var 9 rfl))) (fun hk => ?_) (fun hk => ?_))
    · cases da with
      | some _ => cases hk
      | none =>
        have z := last_none hda.symm
        exact bd_one (sd_if (k := decide (need ≤ am)) (td_ge (pd_var 3 rfl) (pd_var 7 rfl)) (fun h => absurd (of_decide_eq_true h) (by omega)) (fun _ => bd_nil ⟨_, fin, _, a_s2, rfl⟩))
    · cases da with
      | none => cases hk
      | some x =>
        obtain ⟨⟨x0, x1⟩, z1, z2⟩ := last_some hda.symm
        refine bd_env (ρ' := [.d (dL PyData.int ns), .o none (.l (pl s2.2)), .d (PyData.int (kk : Int)), .d (PyData.int am), .d (PyData.int ra), .d (PyData.int dy), .d (PyData.int rest), .d (PyData.int need), .d (dO PyData.int le), .d (PyData.int x), .un, .un, .un, .un, .un, .un, .un, .un, .un, .un, .un]) rfl ?_
        refine bd_guard (k := false || (!(decide (0 ≤ x) && decide (x ≤ 1000)) || decide (m__law_left am ra x < need))) (td_w (wd_or (td_val (pd_isi (x := .int x) (T := "bool") (k := false) rfl (show kitB "int" "bool" = some false by decide +kernel) Y.z_isinstance (pe_cls Y.z_bool rfl) (pd_var 9 rfl))) fun _ => wd_or (td_not (td_chain (f := fun i j => decide (i ≤ j)) (g := fun i j => decide (i ≤ j)) (i := 0) (j := x) (l := 1000) rfl rfl pd_int (pd_var 9 rfl) (fun _ => pd_int))) fun _ => wd_or1 (td_lt (pd_call (c__law_left Y) hr .nil (ad_cons (pd_var 3 rfl) (ad_cons (pd_var 4 rfl) (ad_cons (pd_var 9 rfl) ad_nil))) ⟨_, _, _, rfl, by omega, rfl⟩) (pd_var 7 rfl)))) (fun h => absurd h (by rw [lleft_eq]; simp; omega)) (fun _ => ?_)
        refine bd_one (sd_if (k := decide (x < 1000) && decide (need ≤ m__law_left am ra (x + 1))) (td_w (wd_and (td_lt (pd_var 9 rfl) pd_int) fun hw => wd_and1 (td_ge (pd_call (c__law_left Y) hr .nil (ad_cons (pd_var 3 rfl) (ad_cons (pd_var 4 rfl) (ad_cons (pd_add (pd_var 9 rfl) pd_int) ad_nil))) ⟨_, _, _, rfl, by have := of_decide_eq_true hw; omega, rfl⟩) (pd_var 7 rfl)))) (fun h => ?_) (fun _ => bd_nil ⟨_, fin, _, a_s2, rfl⟩))
        exfalso
        obtain ⟨q1, q2⟩ := Bool.and_eq_true_iff.mp h
        have q1 := of_decide_eq_true q1
        have q2 := of_decide_eq_true q2
        rw [lleft_eq] at q2
        have := z2 q1
        omega
  rintro r ⟨q, a_q, hle⟩
  refine bd_le hle ?_
  clear hle
  obtain ⟨t1, h_t1, b_t1, a_t1⟩ := drw q 5 (by omega) a_q
  refine bd_seq (sd_setLcD 10 (lcS (List.range t1.1.toNat) (fun i : Nat => PyData.int (i : Int)) (dT2 PyData.int PyData.int) (fun q : Pool => [.d (dL PyData.int ns), .o none (.l (pl q)), .un, .un, .un, .un, .un, .un, .un, .un, .un, .un, .un, .un, .un, .un, .un, .un, .un, .un, .un]) (fun (q : Pool) (_ : Nat) => (drawP (drawP q 50).2 1001).2) (fun _ _ => true) (fun (q : Pool) (_ : Nat) => ((drawP q 50).1, (drawP (drawP q 50).2 1001).1)) t1.2 (blkOk_by (own := [("k", 2)]) (show blkC n_law (defScope s_law) _ _ = true by decide +kernel)) (id_rangeI (n := t1.1) Y.z_range (pd_callO 1 (c__law_draw Y) hr .nil rfl (ad_cons pd_int ad_nil) rfl ⟨q, 5, t1, rfl, rfl, ⟨by omega, by omega, a_q⟩, h_t1, rfl, rfl⟩) (by omega) (by omega)) (by repeat (first | exact Le.nil | apply Le.eq | apply Le.un)) (by rw [List.length_range]; omega) (by intro _ h; cases h) (fun _ => trivial)
    (fun i k q hk hq => by
      have Aq : 0 ≤ q.a := by rw [hq]; exact pair_fold_a _ _ a_t1
      exact ⟨_, _, _, (fun Z hZ => by obtain ⟨s1, H1, C1, cl1, fp1, rfl⟩ := hZ; exact (gv_name 2 (by decide) sc_law.nd)), (fun Z hZ => by obtain ⟨s1, H1, C1, cl1, fp1, rfl⟩ := hZ; exact tsd_nil), (fun Z hZ _ => by obtain ⟨s1, H1, C1, cl1, fp1, rfl⟩ := hZ; exact (pd_tup (ad_cons (pd_callO 1 (c__law_draw Y) hr .nil rfl (ad_cons pd_int ad_nil) rfl ⟨q, 50, _, rfl, rfl, ⟨by decide, by decide, Aq⟩, rfl, rfl, rfl⟩) (ad_cons (pd_callO 1 (c__law_draw Y) hr .nil rfl (ad_cons pd_int ad_nil) rfl ⟨(drawP q 50).2, 1001, _, rfl, rfl, ⟨by decide, by decide, draw_a q 50 Aq⟩, rfl, rfl, rfl⟩) ad_nil)))), (fun _ => (by repeat (first | exact Le.nil | apply Le.eq | apply Le.un))), (fun z => nomatch z)⟩)) rfl sc_law.nd) ?_
  have pb : ∀ x ∈ scanV (fun (q : Pool) (_ : Nat) => (drawP (drawP q 50).2 1001).2) (fun _ _ => true) (fun (q : Pool) (_ : Nat) => ((drawP q 50).1, (drawP (drawP q 50).2 1001).1)) t1.2 (List.range t1.1.toNat), (0 ≤ x.1 ∧ x.1 ≤ 49) ∧ (0 ≤ x.2 ∧ x.2 ≤ 1000) := scan_mem2 _ _ _ (fun x : Int × Int => (0 ≤ x.1 ∧ x.1 ≤ 49) ∧ (0 ≤ x.2 ∧ x.2 ≤ 1000)) (fun q _ => by
    have h1 := draw_bd q (n := 50) (by decide)
    have h2 := draw_bd (drawP q 50).2 (n := 1001) (by decide)
    dsimp only
    omega) _ _
  have pn : (scanV (fun (q : Pool) (_ : Nat) => (drawP (drawP q 50).2 1001).2) (fun _ _ => true) (fun (q : Pool) (_ : Nat) => ((drawP q 50).1, (drawP (drawP q 50).2 1001).1)) t1.2 (List.range t1.1.toNat)).length ≤ 4 := by
    refine Nat.le_trans (scan_len2 _ _ _ _ _) ?_
    rw [List.length_range]
    omega
  have a_p1 := pair_fold_a (List.range t1.1.toNat) t1.2 a_t1
  generalize scanV (fun (q : Pool) (_ : Nat) => (drawP (drawP q 50).2 1001).2) (fun _ _ => true) (fun (q : Pool) (_ : Nat) => ((drawP q 50).1, (drawP (drawP q 50).2 1001).1)) t1.2 (List.range t1.1.toNat) = ps at pb pn ⊢
  generalize (List.range t1.1.toNat).foldl (fun (q : Pool) (_ : Nat) => (drawP (drawP q 50).2 1001).2) t1.2 = p1 at a_p1 ⊢
  refine bd_env (ρ' := [.d (dL PyData.int ns), .o none (.l (pl p1)), .un, .un, .un, .un, .un, .un, .un, .un, .d (dL (dT2 PyData.int PyData.int) ps), .un, .un, .un, .un, .un, .un, .un, .un, .un, .un]) rfl ?_
  refine bd_seq (sd_set 11 (pd_sumD (ns := ps.map (fun a : Int × Int => a.1)) rfl Y.z_sum (pd_n (pn_lc (lcN ps (dT2 PyData.int PyData.int) PyData.int (fun a : Int × Int => a.1) (blkOk_by (own := [("row", 12)]) (show blkC n_law (defScope s_law) _ _ = true by decide +kernel)) (id_listD (f := dT2 PyData.int PyData.int) (ns := ps) (pd_var 10 rfl)) (by omega) (by intro _ h; cases h) trivial (fun a ha => ⟨_, _, (fun Z hZ => by obtain ⟨s1, H1, C1, cl1, fp1, rfl⟩ := hZ; exact (gv_name 12 (by decide) sc_law.nd)), (fun Z hZ => by obtain ⟨s1, H1, C1, cl1, fp1, rfl⟩ := hZ; exact (pd_ixT (i := 0) rfl (pd_var 12 rfl) pd_int)), (by repeat (first | exact Le.nil | apply Le.eq | apply Le.un)), (by repeat (first | exact Le.nil | apply Le.eq | apply Le.un))⟩)) sc_law.nd))) rfl sc_law.nd) ?_
  refine bd_seq (sd_set 13 (pd_sumD (ns := ps.map (fun a : Int × Int => a.1 * a.2)) rfl Y.z_sum (pd_n (pn_lc (lcN ps (dT2 PyData.int PyData.int) PyData.int (fun a : Int × Int => a.1 * a.2) (blkOk_by (own := [("row", 12)]) (show blkC n_law (defScope s_law) _ _ = true by decide +kernel)) (id_listD (f := dT2 PyData.int PyData.int) (ns := ps) (pd_var 10 rfl)) (by omega) (by intro _ h; cases h) trivial (fun a ha => ⟨_, _, (fun Z hZ => by obtain ⟨s1, H1, C1, cl1, fp1, rfl⟩ := hZ; exact (gv_name 12 (by decide) sc_law.nd)), (fun Z hZ => by obtain ⟨s1, H1, C1, cl1, fp1, rfl⟩ := hZ; exact (pd_mul (by have := pb a ha; exact .inl (by omega)) (pd_ixT (i := 0) rfl (pd_var 12 rfl) pd_int) (pd_ixT (i := 1) rfl (pd_var 12 rfl) pd_int))), (by repeat (first | exact Le.nil | apply Le.eq | apply Le.un)), (by repeat (first | exact Le.nil | apply Le.eq | apply Le.un))⟩)) sc_law.nd))) rfl sc_law.nd) ?_
  have tb := sum_bd 49 (ps.map fun a => a.1) (fun x hx => by
    obtain ⟨y, hy, rfl⟩ := List.mem_map.mp hx
    exact (pb y hy).1)
  have wb := sum_bd 49000 (ps.map fun a => a.1 * a.2) (fun x hx => by
    obtain ⟨y, hy, rfl⟩ := List.mem_map.mp hx
    have := pb y hy
    exact ⟨Int.mul_nonneg (by omega) (by omega), Int.le_trans (Int.mul_le_mul_of_nonneg_left this.2.2 this.1.1) (by omega)⟩)
  rw [List.length_map] at tb wb
  have hmix := mixed_eq ps
  have hT : (ps.map (fun a : Int × Int => a.1)).sum = (ps.map fun a => a.1).sum := rfl
  generalize (ps.map fun a => a.1).sum = tt at tb hmix ⊢
  generalize (ps.map fun a => a.1 * a.2).sum = ww at wb hmix ⊢
  clear hT
  refine bd_env (ρ' := [.d (dL PyData.int ns), .o none (.l (pl p1)), .un, .un, .un, .un, .un, .un, .un, .un, .d (dL (dT2 PyData.int PyData.int) ps), .d (PyData.int tt), .un, .d (PyData.int ww), .un, .un, .un, .un, .un, .un, .un]) rfl ?_
  refine bd_seq (sd_set 14 (pd_call (c_mixed Y) hr .nil (ad_cons (pd_var 10 rfl) ad_nil) ⟨ps, rfl, ⟨fun x hx => by have := pb x hx; omega, by omega⟩, rfl⟩) rfl sc_law.nd) ?_
  obtain ⟨mt, mw, hm⟩ : ∃ mt mw, m_mixed ps = (mt, mw) := ⟨_, _, rfl⟩
  rw [hm]
  rw [hm] at hmix
  refine bd_env (ρ' := [.d (dL PyData.int ns), .o none (.l (pl p1)), .un, .un, .un, .un, .un, .un, .un, .un, .d (dL (dT2 PyData.int PyData.int) ps), .d (PyData.int tt), .un, .d (PyData.int ww), .d (dT2 PyData.int PyData.int (mt, mw)), .un, .un, .un, .un, .un, .un]) rfl ?_
  have mx : (tt = 0 → mt = 0 ∧ mw = 0) ∧ (0 < tt → mt = tt ∧ ww ≤ mw * tt ∧ (mw - 1) * tt < ww ∧ 0 ≤ mw ∧ mw ≤ 1000000) := by
    constructor
    · intro z
      rw [if_pos z] at hmix
      cases hmix
      exact ⟨rfl, rfl⟩
    · intro z
      rw [if_neg (by omega)] at hmix
      cases hmix
      have d1 := Int.emod_nonneg (ww + tt - 1) (show tt ≠ 0 by omega)
      have d2 := Int.emod_lt_of_pos (ww + tt - 1) z
      have d3 := Int.emod_add_mul_ediv (ww + tt - 1) tt
      rw [Int.mul_comm] at d3
      refine ⟨rfl, by omega, by rw [Int.sub_mul]; omega, Int.ediv_nonneg (by omega) (by omega), ?_⟩
      have d4 := Int.ediv_le_self tt (show 0 ≤ ww + tt - 1 by omega)
      have : (ps.length : Int) ≤ 4 := by omega
      omega
  have eqv0 : tt = 0 → PyData.eqv (dT2 PyData.int PyData.int (mt, mw)) (.tuple [.int 0, .int 0]) = true := fun z => by obtain ⟨rfl, rfl⟩ := mx.1 z; decide
  refine bd_guard (k := false) (td_cast (k := (decide (tt = 0) && !PyData.eqv (dT2 PyData.int PyData.int (mt, mw)) (.tuple [.int 0, .int 0])) || (decide (0 < tt) && !true)) (by by_cases z : tt = 0 <;> simp [z, eqv0]) (td_w (wd_or (td_w (wd_and (td_eqI (pd_var 11 rfl) pd_int) fun _ => wd_and1 (td_ne hr.units rfl rfl (pd_var 14 rfl) (pd_tup (ad_cons pd_int (ad_cons pd_int ad_nil)))))) fun _ => wd_or1 (td_w (wd_and (td_gt (pd_var 11 rfl) pd_int) fun hw => wd_and1 (td_not (td_val (pd_call (c__law_same Y 0) hr .nil (ad_cons (pd_cast (congrArg PyData.int (mx.2 (of_decide_eq_true hw)).1) (pd_ixT (i := 0) rfl (pd_var 14 rfl) pd_int)) (ad_cons (pd_var 11 rfl) ad_nil)) ⟨_, rfl, .int _, rfl⟩)))))))) (fun h => nomatch h) (fun _ => ?_)
  refine bd_guard (k := decide (0 < tt) && (false || (decide (mw * tt < ww) || decide (ww ≤ (mw - 1) * tt)))) (td_w (wd_and (td_gt (pd_var 11 rfl) pd_int) fun hw => wd_and1 (td_w (wd_or (td_val (pd_isi (x := .int mw) (T := "bool") (k := false) rfl (show kitB "int" "bool" = some false by decide +kernel) Y.z_isinstance (pe_cls Y.z_bool rfl) (pd_ixT (i := 1) rfl (pd_var 14 rfl) pd_int))) fun _ => wd_or (td_lt (pd_mul (.inr (by omega)) (pd_ixT (i := 1) rfl (pd_var 14 rfl) pd_int) (pd_var 11 rfl)) (pd_var 13 rfl)) fun _ => wd_or1 (td_ge (pd_mul (.inr (by omega)) (pd_sub (pd_ixT (i := 1) rfl (pd_var 14 rfl) pd_int) pd_int) (pd_var 11 rfl)) (pd_var 13 rfl)))))) (fun h => ?_) (fun _ => ?_)
  · exfalso
    obtain ⟨q1, q2⟩ := Bool.and_eq_true_iff.mp h
    have q1 := of_decide_eq_true q1
    have := mx.2 q1
    simp at q2
    omega
  refine bd_le (ρ' := [.d (dL PyData.int ns), .o none (.l (pl p1)), .un, .un, .un, .un, .un, .un, .un, .un, .un, .un, .un, .un, .un, .un, .un, .un, .un, .un, .un]) (by repeat (first | exact Le.nil | apply Le.eq | apply Le.un)) ?_
  obtain ⟨u1, h_u1, b_u1, a_u1⟩ := drw p1 1001 (by omega) a_p1
  obtain ⟨u2, h_u2, b_u2, a_u2⟩ := drw u1.2 1001 (by omega) a_u1
  obtain ⟨u3, h_u3, b_u3, a_u3⟩ := drw u2.2 5000 (by omega) a_u2
  refine bd_seq (sd_set 15 (pd_callO 1 (c__law_draw Y) hr .nil rfl (ad_cons pd_int ad_nil) rfl ⟨p1, 1001, u1, rfl, rfl, ⟨by omega, by omega, a_p1⟩, h_u1, rfl, rfl⟩) rfl sc_law.nd) ?_
  refine bd_seq (sd_set 16 (pd_callO 1 (c__law_draw Y) hr .nil rfl (ad_cons pd_int ad_nil) rfl ⟨u1.2, 1001, u2, rfl, rfl, ⟨by omega, by omega, a_u1⟩, h_u2, rfl, rfl⟩) rfl sc_law.nd) ?_
  refine bd_seq (sd_set 3 (pd_callO 1 (c__law_draw Y) hr .nil rfl (ad_cons pd_int ad_nil) rfl ⟨u2.2, 5000, u3, rfl, rfl, ⟨by omega, by omega, a_u2⟩, h_u3, rfl, rfl⟩) rfl sc_law.nd) ?_
  obtain ⟨we, p2⟩ := u1
  obtain ⟨ai, p3⟩ := u2
  obtain ⟨av, p4⟩ := u3
  dsimp only at *
  refine bd_env (ρ' := [.d (dL PyData.int ns), .o none (.l (pl p4)), .un, .d (PyData.int av), .un, .un, .un, .un, .un, .un, .un, .un, .un, .un, .un, .d (PyData.int we), .d (PyData.int ai), .un, .un, .un, .un]) rfl ?_
  refine bd_seq (sd_set 17 (pd_call (c_dried Y) hr .nil (ad_cons (pd_var 3 rfl) (ad_cons (pd_var 15 rfl) (ad_cons (pd_var 16 rfl) ad_nil))) (.inl ⟨av, we, ai, rfl, by omega, rfl⟩)) rfl sc_law.nd) ?_
  have hdr : (we ≤ ai → m_dried av we ai = av) ∧ (ai < we → m_dried av we ai * (1000 - ai) ≤ av * (1000 - we) ∧ av * (1000 - we) < (m_dried av we ai + 1) * (1000 - ai) ∧ 0 ≤ m_dried av we ai) := by
    unfold m_dried
    constructor
    · intro z; rw [if_pos (decide_eq_true z)]
    · intro z
      rw [if_neg (by simp; omega)]
      have p0 : (0 : Int) < 1000 - ai := by omega
      have n0 : 0 ≤ av * (1000 - we) := Int.mul_nonneg (by omega) (by omega)
      generalize av * (1000 - we) = v at n0 ⊢
      generalize 1000 - ai = m at p0 ⊢
      have d1 := Int.emod_nonneg v (show m ≠ 0 by omega)
      have d2 := Int.emod_lt_of_pos v p0
      have d3 := Int.emod_add_mul_ediv v m
      rw [Int.mul_comm] at d3
      exact ⟨by omega, by rw [Int.add_mul]; omega, Int.ediv_nonneg n0 (by omega)⟩
  generalize m_dried av we ai = dv at hdr ⊢
  refine bd_env (ρ' := [.d (dL PyData.int ns), .o none (.l (pl p4)), .un, .d (PyData.int av), .un, .un, .un, .un, .un, .un, .un, .un, .un, .un, .un, .d (PyData.int we), .d (PyData.int ai), .d (PyData.int dv), .un, .un, .un]) rfl ?_
  refine bd_guard (k := decide (we ≤ ai) && !true) (td_w (wd_and (td_le (pd_var 15 rfl) (pd_var 16 rfl)) fun hw => wd_and1 (td_not (td_val (pd_call (c__law_same Y 0) hr .nil (ad_cons (pd_cast (congrArg PyData.int (hdr.1 (of_decide_eq_true hw))) (pd_var 17 rfl)) (ad_cons (pd_var 3 rfl) ad_nil)) ⟨_, rfl, .int _, rfl⟩))))) (fun h => absurd h (by simp)) (fun _ => ?_)
  refine bd_guard (k := decide (ai < we) && (false || (decide (av * (1000 - we) < dv * (1000 - ai)) || decide ((dv + 1) * (1000 - ai) ≤ av * (1000 - we))))) (td_w (wd_and (td_gt (pd_var 15 rfl) (pd_var 16 rfl)) fun _ => wd_and1 (td_w (wd_or (td_val (pd_isi (x := .int dv) (T := "bool") (k := false) rfl (show kitB "int" "bool" = some false by decide +kernel) Y.z_isinstance (pe_cls Y.z_bool rfl) (pd_var 17 rfl))) fun _ => wd_or (td_gt (pd_mul (.inr (by omega)) (pd_var 17 rfl) (pd_sub pd_int (pd_var 16 rfl))) (pd_mul (.inr (by omega)) (pd_var 3 rfl) (pd_sub pd_int (pd_var 15 rfl)))) fun _ => wd_or1 (td_le (pd_mul (.inr (by omega)) (pd_add (pd_var 17 rfl) pd_int) (pd_sub pd_int (pd_var 16 rfl))) (pd_mul (.inr (by omega)) (pd_var 3 rfl) (pd_sub pd_int (pd_var 15 rfl)))))))) (fun h => ?_) (fun _ => ?_)
  · exfalso
    obtain ⟨q1, q2⟩ := Bool.and_eq_true_iff.mp h
    have q1 := of_decide_eq_true q1
    have := hdr.2 q1
    simp at q2
    omega
  refine bd_le (ρ' := [.d (dL PyData.int ns), .o none (.l (pl p4)), .un, .un, .un, .un, .un, .un, .un, .un, .un, .un, .un, .un, .un, .un, .un, .un, .un, .un, .un]) (by repeat (first | exact Le.nil | apply Le.eq | apply Le.un)) ?_
  obtain ⟨v1, h_v1, b_v1, a_v1⟩ := drw p4 60 (by omega) a_u3
  obtain ⟨v2, h_v2, b_v2, a_v2⟩ := drw v1.2 40 (by omega) a_v1
  obtain ⟨v3, h_v3, b_v3, a_v3⟩ := drw v2.2 3000 (by omega) a_v2
  obtain ⟨v4, h_v4, b_v4, a_v4⟩ := drw v3.2 2 (by omega) a_v3
  refine bd_seq (sd_set 4 (pd_callO 1 (c__law_draw Y) hr .nil rfl (ad_cons pd_int ad_nil) rfl ⟨p4, 60, v1, rfl, rfl, ⟨by omega, by omega, a_u3⟩, h_v1, rfl, rfl⟩) rfl sc_law.nd) ?_
  obtain ⟨s0, e5, s00, s01⟩ : ∃ v : Int, ([PyData.int v2.1, PyData.int v3.1] : List PyData)[v4.1.toNat]? = some (PyData.int v) ∧ 0 ≤ v ∧ v ≤ 3000 := by
    have : v4.1 = 0 ∨ v4.1 = 1 := by omega
    rcases this with e | e <;> rw [e]
    · exact ⟨_, rfl, by omega, by omega⟩
    · exact ⟨_, rfl, by omega, by omega⟩
  refine bd_seq (sd_setN 18 (pn_lst (ad_cons (pd_callO (y := PyData.int s0) 1 (c__law_pick Y) hr .nil rfl (ad_cons (pd_n (pn_lst (ad_cons (pd_callO 1 (c__law_draw Y) hr .nil rfl (ad_cons pd_int ad_nil) rfl ⟨v1.2, 40, v2, rfl, rfl, ⟨by omega, by omega, a_v1⟩, h_v2, rfl, rfl⟩) (ad_cons (pd_callO 1 (c__law_draw Y) hr .nil rfl (ad_cons pd_int ad_nil) rfl ⟨v2.2, 3000, v3, rfl, rfl, ⟨by omega, by omega, a_v2⟩, h_v3, rfl, rfl⟩) ad_nil)))) ad_nil) rfl ⟨v3.2, _, v4, rfl, rfl, ⟨by simp, by simp, a_v3⟩, h_v4, e5, rfl⟩) ad_nil)) rfl sc_law.nd) ?_
  refine bd_env (ρ' := [.d (dL PyData.int ns), .o none (.l (pl v4.2)), .un, .un, .d (PyData.int v1.1), .un, .un, .un, .un, .un, .un, .un, .un, .un, .un, .un, .un, .un, .ol (([s0] : List Int).map PyData.int), .un, .un]) rfl ?_
  obtain ⟨w1, h_w1, b_w1, a_w1⟩ := drw v4.2 4 (by omega) a_v4
  refine bd_cut (fun r => ∃ (q : Pool) (ss : List Int), 0 ≤ q.a ∧ (ss.length ≤ 5 ∧ ∀ x ∈ ss, 0 ≤ x ∧ x ≤ 4000) ∧ Le [.d (dL PyData.int ns), .o none (.l (pl q)), .un, .un, .d (PyData.int v1.1), .un, .un, .un, .un, .un, .un, .un, .un, .un, .un, .un, .un, .un, .ol (ss.map PyData.int), .un, .un] r) (sd_for (fun i r => ∃ (q : Pool) (ss : List Int), 0 ≤ q.a ∧ ss.length = i + 1 ∧ (∀ x ∈ ss, 0 ≤ x ∧ x ≤ 3000 + (i : Int)) ∧ r = [.d (dL PyData.int ns), .o none (.l (pl q)), .un, .un, .d (PyData.int v1.1), .un, .un, .un, .un, .un, .un, .un, .un, .un, .un, .un, .un, .un, .ol (ss.map PyData.int), .un, .un]) (passes_of rfl) rfl (id_rangeI (n := w1.1) Y.z_range (pd_callO 1 (c__law_draw Y) hr .nil rfl (ad_cons pd_int ad_nil) rfl ⟨v4.2, 4, w1, rfl, rfl, ⟨by omega, by omega, a_v4⟩, h_w1, rfl, rfl⟩) (by omega) (by omega)) ⟨_, (by repeat (first | exact Le.nil | apply Le.eq | apply Le.un)), w1.2, [s0], a_w1, rfl, (by intro x hx; simp at hx; omega), rfl⟩ (fun _ _ _ => trivial) (fun i d r hd hI => ?_) (fun r hI => ?_)) ?_
  · obtain ⟨q, ss, a_q, sl, sb, rfl⟩ := hI
    refine ⟨_, gd_name 2 sc_law.nd, ?_⟩
    rw [List.getElem?_map] at hd
    obtain ⟨kk, hkk, rfl⟩ := Option.map_eq_some_iff.mp hd
    rw [List.getElem?_eq_some_iff] at hkk
    obtain ⟨hlt, hkk⟩ := hkk
    rw [List.getElem_range] at hkk
    rw [List.length_range] at hlt
    subst hkk
    refine bd_env (ρ' := [.d (dL PyData.int ns), .o none (.l (pl q)), .d (PyData.int (i : Int)), .un, .d (PyData.int v1.1), .un, .un, .un, .un, .un, .un, .un, .un, .un, .un, .un, .un, .un, .ol (ss.map PyData.int), .un, .un]) rfl ?_
    have gb := sb _ (gI_mem (xs := ss) (i := (i : Int)) ⟨by omega, by omega⟩)
    obtain ⟨x1, h_x1, b_x1, a_x1⟩ := drw q 4 (by omega) a_q
    obtain ⟨ad, e6, ad0, ad1⟩ : ∃ v : Int, ([PyData.int 0, PyData.int 0, PyData.int 0, PyData.int 1] : List PyData)[x1.1.toNat]? = some (PyData.int v) ∧ 0 ≤ v ∧ v ≤ 1 := by
      have : x1.1 = 0 ∨ x1.1 = 1 ∨ x1.1 = 2 ∨ x1.1 = 3 := by omega
      rcases this with e | e | e | e <;> rw [e]
      · exact ⟨_, rfl, by omega, by omega⟩
      · exact ⟨_, rfl, by omega, by omega⟩
      · exact ⟨_, rfl, by omega, by omega⟩
      · exact ⟨_, rfl, by omega, by omega⟩
    have lb := lv_bd (r := v1.1) (by omega) (by omega) gb.1 (1 : Int).toNat
    rw [← lleft_eq] at lb
    refine bd_one (sd_appendM (f := PyData.int) (ns := ss) (v := max 0 (m__law_left (gI ss (i : Int)) v1.1 1 + ad)) 18 rfl (pd_max2 rfl Y.z_max pd_int (pd_add (pd_call (c__law_left Y) hr .nil (ad_cons (pd_gixO (f := PyData.int) (ns := ss) (i := (i : Int)) 18 rfl (pd_var 2 rfl) rfl ⟨by omega, by omega⟩) (ad_cons (pd_var 4 rfl) (ad_cons pd_int ad_nil))) ⟨_, _, _, rfl, by omega, rfl⟩) (pd_callO (y := PyData.int ad) 1 (c__law_pick Y) hr .nil rfl (ad_cons (pd_n (pn_lst (ad_cons pd_int (ad_cons pd_int (ad_cons pd_int (ad_cons pd_int ad_nil)))))) ad_nil) rfl ⟨q, _, x1, rfl, rfl, ⟨by simp, by simp, a_q⟩, h_x1, e6, rfl⟩))) rfl (by omega) ⟨_, (by repeat (first | exact Le.nil | apply Le.eq | apply Le.un)), x1.2, ss ++ [max 0 (m__law_left (gI ss (i : Int)) v1.1 1 + ad)], a_x1, by simp; omega, fun x hx => ?_, rfl⟩)
    rcases List.mem_append.mp hx with z | z
    · have := sb x z; omega
    · rw [List.mem_singleton] at z
      omega
  · obtain ⟨q, ss, a_q, sl, sb, rfl⟩ := hI
    rw [List.length_map, List.length_range] at sl sb
    exact ⟨q, ss, a_q, ⟨by omega, fun x hx => by have := sb x hx; omega⟩, Le.refl _⟩
  rintro r ⟨q, ss, a_q2, ⟨sl, sb⟩, hle⟩
  refine bd_le hle ?_
  clear hle
  refine bd_thaw 18 rfl ?_
  refine bd_env (ρ' := [.d (dL PyData.int ns), .o none (.l (pl q)), .un, .un, .d (PyData.int v1.1), .un, .un, .un, .un, .un, .un, .un, .un, .un, .un, .un, .un, .un, .d (dL PyData.int ss), .un, .un]) rfl ?_
  refine bd_seq (sd_setLcD 19 (lcM (List.range 1001) (fun i : Nat => PyData.int (i : Int)) PyData.int (fun (a : Nat) => decide ((((((List.range (((ss.length : Int)) - 1).toNat).filter (fun (b : Nat) => !(decide (m__law_left (gI ss ((1 + (b : Int)) - 1)) (a : Int) 1 = gI ss (1 + (b : Int)))))).map (fun (b : Nat) => 1 + (b : Int))).length : Nat) : Int) = 0)) (fun (a : Nat) => (a : Int)) (blkOk_by (own := [("one", 20)]) (show blkC n_law (defScope s_law) _ _ = true by decide +kernel)) (id_range0 (n := 1001) Y.z_range pd_int (by decide)) (by rw [List.length_range]; omega) (by intro _ h; cases h) trivial (fun a ha => ⟨_, _, (fun Z hZ => by obtain ⟨s1, H1, C1, cl1, fp1, rfl⟩ := hZ; exact (gv_name 20 (by decide) sc_law.nd)), (fun Z hZ => by obtain ⟨s1, H1, C1, cl1, fp1, rfl⟩ := hZ; exact (tsd_one (td_eqI (pd_lenD (f := PyData.int) Y.z_len (pd_n (pn_lc (lcM (List.range (((ss.length : Int)) - 1).toNat) (fun i : Nat => PyData.int (1 + (i : Int))) PyData.int (fun (b : Nat) => !(decide (m__law_left (gI ss ((1 + (b : Int)) - 1)) (a : Int) 1 = gI ss (1 + (b : Int))))) (fun (b : Nat) => 1 + (b : Int)) (blkOk_by (own := [("k", 2)]) (by first | rfl | kernel_rfl | with_unfolding_all rfl)) (id_rangeM (m := 1) (n := (ss.length : Int)) Y.z_range pd_int (pd_lenD (f := PyData.int) (ns := ss) Y.z_len (pd_var 18 rfl)) (by omega) (by omega) (by omega) (by omega)) (by rw [List.length_range]; omega) (by intro _ h; cases h) trivial (fun b hb => ⟨_, _, (fun Z hZ => by obtain ⟨s1, H1, C1, cl1, fp1, rfl⟩ := hZ; exact (gv_name 2 (by decide) sc_law.nd)), (fun Z hZ => by obtain ⟨s1, H1, C1, cl1, fp1, rfl⟩ := hZ; exact (tsd_one (td_neI (pd_call (c__law_left Y) hr .nil (ad_cons (pd_gixD (f := PyData.int) (ns := ss) (i := (1 + (b : Int)) - 1) (by have hi := List.mem_range.mp hb; omega) (pd_var 18 rfl) (pd_sub (pd_var 2 rfl) pd_int)) (ad_cons (pd_var 20 rfl) (ad_cons pd_int ad_nil))) ⟨_, _, _, rfl, by have hi := List.mem_range.mp hb; have h2 := List.mem_range.mp ha; have := sb _ (gI_mem (xs := ss) (i := (1 + (b : Int)) - 1) ⟨by omega, by omega⟩); omega, rfl⟩) (pd_gixD (f := PyData.int) (ns := ss) (i := 1 + (b : Int)) (by have hi := List.mem_range.mp hb; omega) (pd_var 18 rfl) (pd_var 2 rfl))))), (fun Z hZ _ => by obtain ⟨s1, H1, C1, cl1, fp1, rfl⟩ := hZ; exact (pd_var 2 rfl)), (by repeat (first | exact Le.nil | apply Le.eq | apply Le.un)), (by repeat (first | exact Le.nil | apply Le.eq | apply Le.un))⟩)) sc_law.nd))) pd_int))), (fun Z hZ _ => by obtain ⟨s1, H1, C1, cl1, fp1, rfl⟩ := hZ; exact (pd_var 20 rfl)), (by repeat (first | exact Le.nil | apply Le.eq | apply Le.un)), (by repeat (first | exact Le.nil | apply Le.eq | apply Le.un))⟩)) rfl sc_law.nd) ?_
  refine bd_env (ρ' := [.d (dL PyData.int ns), .o none (.l (pl q)), .un, .un, .d (PyData.int v1.1), .un, .un, .un, .un, .un, .un, .un, .un, .un, .un, .un, .un, .un, .d (dL PyData.int ss), .d (dL PyData.int (fits ss)), .un]) rfl ?_
  have hrt := rates_eq ss
  have hrt2 : m_rates ss = if decide (0 < (((fits ss).length : Nat) : Int)) = true then some (gI (fits ss) 0, gI (fits ss) (((fits ss).length : Int) - 1)) else none := by
    rw [hrt]
    cases fits ss with
    | nil => rfl
    | cons x xs =>
      have c1 : (!(x :: xs).isEmpty) = true := rfl
      have c2 : decide (0 < (((x :: xs).length : Nat) : Int)) = true := decide_eq_true (by rw [List.length_cons]; omega)
      rw [if_pos c1, if_pos c2]
      congr 2
      unfold gI
      rw [if_pos (by decide), if_neg (by simp)]
      congr 2
  generalize fits ss = ft at hrt2 ⊢
  clear hrt
  have nf : Nice 1 (dO (dT2 PyData.int PyData.int) (m_rates ss)) := by
    cases m_rates ss with
    | none => exact .non
    | some p => exact nice_pair
  refine bd_guard (k := !true) (td_not (td_val (pd_call (c__law_same Y 1) hr .nil (ad_cons (pd_call (c_rates Y) hr .nil (ad_cons (pd_var 18 rfl) ad_nil) ⟨ss, rfl, ⟨fun x hx => by have := sb x hx; omega, by omega⟩, rfl⟩) (ad_cons (pd_cast (x := dO (dT2 PyData.int PyData.int) (if decide (0 < ((ft.length : Nat) : Int)) = true then some (gI ft 0, gI ft ((ft.length : Int) - 1)) else none)) (by rw [hrt2]) (pd_ift (dO (dT2 PyData.int PyData.int)) (some (gI ft 0, gI ft ((ft.length : Int) - 1))) none (td_gt (pd_lenD (f := PyData.int) (ns := ft) Y.z_len (pd_var 19 rfl)) pd_int) (fun hw => (pd_tup (ad_cons (pd_gixD (f := PyData.int) (ns := ft) (i := 0) (by have := of_decide_eq_true hw; omega) (pd_var 19 rfl) pd_int) (ad_cons (pd_gixD (f := PyData.int) (ns := ft) (i := (ft.length : Int) - 1) (by have := of_decide_eq_true hw; omega) (pd_var 19 rfl) (pd_sub (pd_lenD (f := PyData.int) (ns := ft) Y.z_len (pd_var 19 rfl)) pd_int)) ad_nil)))) (fun _ => pd_non))) ad_nil)) ⟨_, rfl, nf, rfl⟩))) (fun h => nomatch h) (fun _ => ?_)
  refine bd_guard (k := !true) (td_not (td_val (pd_call (c__law_same Y 0) hr .nil (ad_cons (pd_cast (congrArg PyData.bool (losing_eq ss (fun x hx => by have := sb x hx; omega))) (pd_call (c_is_losing Y) hr .nil (ad_cons (pd_var 18 rfl) ad_nil) ⟨ss, rfl, by omega, rfl⟩)) (ad_cons (pd_eqI (pd_lenD (f := PyData.int) Y.z_len (pd_n (pn_lc (lcM (List.range (((ss.length : Int)) - 1).toNat) (fun i : Nat => PyData.int (1 + (i : Int))) PyData.int (fun (b : Nat) => decide (gI ss ((1 + (b : Int)) - 1) < gI ss (1 + (b : Int)))) (fun (b : Nat) => 1 + (b : Int)) (blkOk_by (own := [("k", 2)]) (show blkC n_law (defScope s_law) _ _ = true by decide +kernel)) (id_rangeM (m := 1) (n := (ss.length : Int)) Y.z_range pd_int (pd_lenD (f := PyData.int) (ns := ss) Y.z_len (pd_var 18 rfl)) (by omega) (by omega) (by omega) (by omega)) (by rw [List.length_range]; omega) (by intro _ h; cases h) trivial (fun b hb => ⟨_, _, (fun Z hZ => by obtain ⟨s1, H1, C1, cl1, fp1, rfl⟩ := hZ; exact (gv_name 2 (by decide) sc_law.nd)), (fun Z hZ => by obtain ⟨s1, H1, C1, cl1, fp1, rfl⟩ := hZ; exact (tsd_one (td_gt (pd_gixD (f := PyData.int) (ns := ss) (i := 1 + (b : Int)) (by have hi := List.mem_range.mp hb; omega) (pd_var 18 rfl) (pd_var 2 rfl)) (pd_gixD (f := PyData.int) (ns := ss) (i := (1 + (b : Int)) - 1) (by have hi := List.mem_range.mp hb; omega) (pd_var 18 rfl) (pd_sub (pd_var 2 rfl) pd_int))))), (fun Z hZ _ => by obtain ⟨s1, H1, C1, cl1, fp1, rfl⟩ := hZ; exact (pd_var 2 rfl)), (by repeat (first | exact Le.nil | apply Le.eq | apply Le.un)), (by repeat (first | exact Le.nil | apply Le.eq | apply Le.un))⟩)) sc_law.nd))) pd_int) ad_nil)) ⟨_, rfl, .bl _, rfl⟩))) (fun h => nomatch h) (fun _ => ?_)
  refine bd_one (sd_ret (pd_and_t (pd_cast (x := .bool (decide (false = false))) rfl (pd_isB (pd_cast (congrArg PyData.bool (losing_bad ss)) (pd_call (c_is_losing Y) hr .nil (ad_cons (pd_n (pn_catD (f := PyData.int) (ns := ss) (ms := [-1]) (pd_var 18 rfl) (pd_n (pn_lst (ad_cons (pd_neg pd_int) ad_nil))) (by simp; omega))) ad_nil) ⟨ss ++ [-1], rfl, by simp; omega, rfl⟩)) pd_bl)) (pd_one (pd_callO 1 (c__law_errors_right Y) hr .nil rfl ad_nil rfl ⟨q, rfl, rfl, a_q2, rfl, rfl⟩))) rfl)
end
end GP

namespace GP
open PySem PySem.Spec PyProof.Rows L2 G

theorem law_fin {P : Program} {w : World} {K : PySem.W.Frag} {h : Heap} {mg : Str → Option Value} {fa : Addr} (X : K.In h) (G : h.Ns mainGlobals mg) (hfa : mg ("law" : Str) = some (.ref fa)) (c : He.SaysX fA fn [] [] exB w h K) :
    ∃ (K : PySem.W.Frag) (fd : FuncData) (sp : Sp), K.In h ∧ (∀ (s : Shared) (u : Value), BindsTo s fd ⟨[u], []⟩ [("script", u)]) ∧
        (∀ (H : Hp) (a : Addr) (ns : List Int), ns.length ≤ 63 → Only H → SqL K H a (ns.map V.int) → sp [.ref a] H (fun v _ => v = .bl true) fun _ _ _ => False) ∧
        ∀ base : Heap, K.In base → base.Ns mainGlobals mg → FnOk P w K mg base CX0 20 fa fd ["script"] sp := by
  have Y := py_of X G c
  obtain ⟨fd, F⟩ := Y.d_law
  have e := hfa.symm.trans Y.g_law
  cases e
  have b := FunD.bindsA (ps := ["script"]) F fun _ _ _ _ _ _ us hl => match us, hl with | [_], _ => rfl
  exact ⟨K, fd, fun vs H Q _ => spD K LawS vs H Q E0, X, fun s v => b s [v] rfl, fun H a ns hl _ hS => law_end H a ns hl hS, fun base _ _ => fn_shut (law_fn F Y)⟩
def loose0 : List Str := [("GrainError" : Str), ("InvalidNumber" : Str), ("GREATEST" : Str), ("is_number" : Str), ("checked_number" : Str), ("DAYS" : Str), ("left" : Str), ("needed" : Str), ("last_day" : Str), ("mixed" : Str), ("dried" : Str), ("is_losing" : Str), ("rates" : Str), ("_law_same" : Str), ("_law_pool" : Str), ("_law_draw" : Str), ("_law_pick" : Str), ("_law_left" : Str), ("_law_refused" : Str), ("_law_errors_right" : Str)]
abbrev hk : PySem.W.Hook := He.hookX 4 fA fn [] [] exB
def ob (s : PySem.W.SharedT) : He.AlX := He.obsX 4 fA fn [] [] exB (HandSHeadRun.getT s)
theorem ob_eq (s : PySem.W.SharedT) : ob s = hk.obs s.abs := He.obsX_eq (HandSHeadRun.getT_eq s)
theorem run (w : World) : HandSHeadRun.RunEq (PySem.W.OpenLaw.row PySem.Challenge.rw_grainhaul_k56_amounts_that_spoil) (PySem.W.view (PySem.W.OpenLaw.row PySem.Challenge.rw_grainhaul_k56_amounts_that_spoil).prog [24]) hk ob 3000 (loose0) w := by
  intro os
  kernel_rfl
end GP
open PySem PySem.W PySem.Calls PyProof.Rows
set_option maxHeartbeats 0 in
theorem PySem.Challenge.cw_grainhaul_k56_amounts_that_spoil_holds : PySem.Challenge.rw_grainhaul_k56_amounts_that_spoil.Holds := by
  w_on; o_law
  refine HandSHeadRun.head_any (r := OpenLaw.row PySem.Challenge.rw_grainhaul_k56_amounts_that_spoil) (q := view (OpenLaw.row PySem.Challenge.rw_grainhaul_k56_amounts_that_spoil).prog [24]) (H := GP.hk) (ob := GP.ob) (M := 3000) (loose := GP.loose0) (d := HandSHeadRun.topDef (OpenLaw.row PySem.Challenge.rw_grainhaul_k56_amounts_that_spoil).prog 24) (kwd := []) GP.ob_eq
    (by kernel_rfl) (fun s => by kernel_rfl) GP.run (by kernel_rfl) (by kernel_rfl) (by kernel_rfl) (by rfl) (by first | assumption | decide +kernel) (by decide +kernel) ⟨rfl, rfl, rfl, rfl, rfl, by decide +kernel⟩ ?hw ?hc
  case hw => w_witness2
  case hc =>
    refine L2.walk_ofE (l := PySem.Challenge.rw_grainhaul_k56_amounts_that_spoil) (n := 63) (k := 20) (x := "script") (CX := L2.CX0) rfl (by decide) (by kernel_rfl) ⟨rfl, by decide, by decide⟩ ?F (fun _ _ _ _ z => z)
    intro w mg fa h Y G hmg0
    obtain ⟨K, KX, c⟩ := Y
    have hmg : mg ("law" : PySem.Str) = some (.ref fa) := by
      have e : (HandSHeadRun.topDef (OpenLaw.row PySem.Challenge.rw_grainhaul_k56_amounts_that_spoil).prog 24).name = ("law" : PySem.Str) := by kernel_rfl
      rw [← e]
      exact hmg0
    exact GP.law_fin (w := w) KX G hmg c
