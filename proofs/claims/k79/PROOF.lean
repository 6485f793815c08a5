import PyProof.Rows.All
import Wide.All
import OpenK.AllK
import Wide.FinOn
import HandS.ForMost
import HandS.Exc
import HandS.ExcOwn
import HandS.TryOnly
import HandS.WordsExc
import HandS.CallSlots
import HandS.Walk
import HandS.Defaults
import HandS.ExcCtx
import HandS.IsInst
import HandS.Wide
import HandS.Head0
import HandS.Head1
import HandS.Head2
import HandS.HeadEnd
import HandS.HeadHook1
import HandS.HeadHook2
import HandS.HeadHook4
import HandS.ExcIs
import HandS.RaiseMore
import HandS.HotCalls
import HandS.SortInts
import HandS.Rev
import HandS.More
import HandS.Deep
import HandS.TupLe
import HandS.Style
import PyProof.Rows.IntBool
import HandS.WordsDict
import HandS.TupLen
import HandS.Conv
import KE.SortData
import KE.DataFind
import HandS.TupAny
import HandS.Iter
import PyProof.SumAnyB
import HandS.ExcInit
import KE.KExcSuper
import KE.KExcMake
import HandS.ExcField
import PyProof.Rows.TupDisplay
import KE.KStateDown
import PySem.Challenge.RW_grainhaul_k79_raised_mixed_and_better_so
set_option Elab.async false
set_option linter.all false
set_option maxRecDepth 100000
set_option maxHeartbeats 4000000
/-! GBase: data read off a frozen part of the heap, what a body owns, and what code evaluates to in such words. -/
namespace G
open PySem PySem.Spec PyProof.Rows L2

/-- what stood stands -/
def Ex (H H' : Hp) : Prop := ∀ a o, H a = some o → H' a = some o
theorem Ex.refl (H : Hp) : Ex H H := fun _ _ h => h
theorem Ex.trans {H H1 H2 : Hp} (a : Ex H H1) (b : Ex H1 H2) : Ex H H2 := fun x o h => b x o (a x o h)
theorem Ex.new {H : Hp} {p : Addr} {o : HO} (h : H p = none) : Ex H (upd H p o) := fun a u e => by
  rw [upd_ne (ne_of_none e h)]; exact e
theorem Ex.rd {H H' : Hp} {a : Addr} {u : HO} (e : Ex H H') (h : Rd H a u) : Rd H' a u := by
  rcases h with h | ⟨o, h⟩
  · exact Or.inl (e a _ h)
  · exact Or.inr ⟨o, e a _ h⟩
theorem Ex.l {K : PySem.W.Frag} {H H' : Hp} {a : Addr} {xs : List V} (e : Ex H H') (h : SqL K H a xs) : SqL K H' a xs := by
  rcases h with h | h
  · exact Or.inl (e.rd h)
  · exact Or.inr h
theorem Ex.t {K : PySem.W.Frag} {H H' : Hp} {a : Addr} {xs : List V} (e : Ex H H') (h : SqT K H a xs) : SqT K H' a xs := by
  rcases h with h | h
  · exact Or.inl (e.rd h)
  · exact Or.inr h
theorem Ex.none {H H' : Hp} {p : Addr} (e : Ex H H') (h : H' p = none) : H p = none := by
  cases h1 : H p with
  | none => rfl
  | some o => rw [e p o h1] at h; cases h

/-! ### data -/
/-- a key as data -/
def kD : Key → PyData
  | .inl i => .int i
  | .inr x => .str x
def kDs (k : List Key) : PyData := .tuple (k.map kD)
mutual
/-- the value v reads as the data d, off the heap F -/
inductive Rp (K : PySem.W.Frag) (F : Hp) : V → PyData → Prop
  | non : Rp K F .non .none
  | bl (b : Bool) : Rp K F (.bl b) (.bool b)
  | int (i : Int) : Rp K F (.int i) (.int i)
  | str (x : Str) : Rp K F (.str x) (.str x)
  | lst {a : Addr} {xs : List V} {ds : List PyData} : SqL K F a xs → RpA K F xs ds → Rp K F (.ref a) (.list ds)
  | tup {a : Addr} {xs : List V} {ds : List PyData} : F a = some (.tup xs) → RpA K F xs ds → Rp K F (.ref a) (.tuple ds)
  | dK {a : Addr} {o : Obj} {kvs : List (Key × V)} {ds : List PyData} : F a = some (.frz o (.dK kvs)) → RpA K F (kvs.map (·.2)) ds → Rp K F (.ref a) (.dict ((kvs.map fun p => kD p.1).zip ds))
  | dT {a : Addr} {o : Obj} {kvs : List (List Key × V)} {ds : List PyData} : F a = some (.frz o (.dT kvs)) → kvs ≠ [] → RpA K F (kvs.map (·.2)) ds → Rp K F (.ref a) (.dict ((kvs.map fun p => kDs p.1).zip ds))
inductive RpA (K : PySem.W.Frag) (F : Hp) : List V → List PyData → Prop
  | nil : RpA K F [] []
  | cons {v : V} {vs : List V} {d : PyData} {ds : List PyData} : Rp K F v d → RpA K F vs ds → RpA K F (v :: vs) (d :: ds)
end
section
variable {K : PySem.W.Frag} {F F' : Hp}
mutual
theorem Rp.mono (e : Ex F F') : ∀ {v : V} {d : PyData}, Rp K F v d → Rp K F' v d
  | _, _, .non => .non
  | _, _, .bl b => .bl b
  | _, _, .int b => .int b
  | _, _, .str b => .str b
  | _, _, .lst h r => .lst (e.l h) (RpA.mono e r)
  | _, _, .tup h r => .tup (e _ _ h) (RpA.mono e r)
  | _, _, .dK h r => .dK (e _ _ h) (RpA.mono e r)
  | _, _, .dT h n r => .dT (e _ _ h) n (RpA.mono e r)
theorem RpA.mono (e : Ex F F') : ∀ {vs : List V} {ds : List PyData}, RpA K F vs ds → RpA K F' vs ds
  | _, _, .nil => .nil
  | _, _, .cons h r => .cons (Rp.mono e h) (RpA.mono e r)
end
theorem RpA.length : ∀ {vs : List V} {ds : List PyData}, RpA K F vs ds → vs.length = ds.length
  | _, _, .nil => rfl
  | _, _, .cons _ r => by rw [List.length_cons, List.length_cons, RpA.length r]
theorem RpA.get : ∀ {vs : List V} {ds : List PyData} {i : Nat} {d : PyData}, RpA K F vs ds → ds[i]? = some d → ∃ v, vs[i]? = some v ∧ Rp K F v d
  | _, _, _, _, .nil, e => by simp at e
  | _, _, 0, _, .cons h _, e => by simp at e; subst e; exact ⟨_, rfl, h⟩
  | _, _, i + 1, d, .cons _ r, e => by
    obtain ⟨v, a, b⟩ := RpA.get (i := i) (d := d) r (by simpa using e)
    exact ⟨v, by simpa using a, b⟩
theorem RpA.getV : ∀ {vs : List V} {ds : List PyData} {i : Nat} {v : V}, RpA K F vs ds → vs[i]? = some v → ∃ d, ds[i]? = some d ∧ Rp K F v d
  | _, _, _, _, .nil, e => by simp at e
  | _, _, 0, _, .cons h _, e => by simp at e; subst e; exact ⟨_, rfl, h⟩
  | _, _, i + 1, d, .cons _ r, e => by
    obtain ⟨v, a, b⟩ := RpA.getV (i := i) (v := d) r (by simpa using e)
    exact ⟨v, by simpa using a, b⟩
theorem RpA.append : ∀ {vs ws : List V} {ds es : List PyData}, RpA K F vs ds → RpA K F ws es → RpA K F (vs ++ ws) (ds ++ es)
  | _, _, _, _, .nil, s => s
  | _, _, _, _, .cons h r, s => .cons h (RpA.append r s)
theorem RpA.take : ∀ {vs : List V} {ds : List PyData} (n : Nat), RpA K F vs ds → RpA K F (vs.take n) (ds.take n)
  | _, _, 0, _ => .nil
  | _, _, _ + 1, .nil => .nil
  | _, _, n + 1, .cons h r => .cons h (RpA.take n r)
theorem RpA.drop : ∀ {vs : List V} {ds : List PyData} (n : Nat), RpA K F vs ds → RpA K F (vs.drop n) (ds.drop n)
  | _, _, 0, r => r
  | _, _, _ + 1, .nil => .nil
  | _, _, n + 1, .cons _ r => RpA.drop n r
theorem RpA.set : ∀ {vs : List V} {ds : List PyData} (i : Nat) {v : V} {d : PyData}, RpA K F vs ds → Rp K F v d → RpA K F (vs.set i v) (ds.set i d)
  | _, _, _, _, _, .nil, _ => .nil
  | _, _, 0, _, _, .cons _ r, x => .cons x r
  | _, _, i + 1, _, _, .cons h r, x => .cons h (RpA.set i r x)
theorem RpA.reverse : ∀ {vs : List V} {ds : List PyData}, RpA K F vs ds → RpA K F vs.reverse ds.reverse
  | _, _, .nil => .nil
  | _, _, .cons h r => by rw [List.reverse_cons, List.reverse_cons]; exact RpA.append (RpA.reverse r) (.cons h .nil)
theorem RpA.ints : ∀ (ns : List Int), RpA K F (ns.map V.int) (ns.map PyData.int)
  | [] => .nil
  | n :: ns => .cons (.int n) (RpA.ints ns)
theorem RpA.ints_inv : ∀ {vs : List V} {ns : List Int}, RpA K F vs (ns.map PyData.int) → vs = ns.map V.int
  | _, [], h => by cases h; rfl
  | _, n :: ns, h => by
    rw [List.map_cons] at h
    cases h with
    | cons a b => cases a; rw [RpA.ints_inv b]; rfl
theorem RpA.bls_inv : ∀ {vs : List V} {ns : List Bool}, RpA K F vs (ns.map PyData.bool) → vs = ns.map V.bl
  | _, [], h => by cases h; rfl
  | _, n :: ns, h => by
    rw [List.map_cons] at h
    cases h with
    | cons a b => cases a; rw [RpA.bls_inv b]; rfl
theorem RpA.strs_inv : ∀ {vs : List V} {ns : List Str}, RpA K F vs (ns.map PyData.str) → vs = ns.map V.str
  | _, [], h => by cases h; rfl
  | _, n :: ns, h => by
    rw [List.map_cons] at h
    cases h with
    | cons a b => cases a; rw [RpA.strs_inv b]; rfl
end

/-! ### what a slot holds -/
/-- what stands at an address that is the body's own: a list, a dict (keys ints and texts; tuples of them) -/
inductive Ct where
  | l (xs : List PyData)
  | d (kvs : List (Key × PyData))
  | t (kvs : List (List Key × PyData))
/-- un: nothing is said; d: data; v: just this value; o: an object of the body's own (its address, if it is told) -/
inductive Sl where
  | un
  | d (x : PyData)
  | v (x : V)
  | o (p : Option Addr) (c : Ct)
abbrev En := List Sl
abbrev Sl.ol (xs : List PyData) : Sl := .o none (.l xs)
abbrev Sl.od (kvs : List (Key × PyData)) : Sl := .o none (.d kvs)
abbrev Sl.ot (kvs : List (List Key × PyData)) : Sl := .o none (.t kvs)

def KvA {κ : Type} (K : PySem.W.Frag) (F : Hp) (kvs : List (κ × V)) (ds : List (κ × PyData)) : Prop := kvs.map (·.1) = ds.map (·.1) ∧ RpA K F (kvs.map (·.2)) (ds.map (·.2))
theorem KvA.mono {κ : Type} {K : PySem.W.Frag} {F F' : Hp} {kvs : List (κ × V)} {ds : List (κ × PyData)} (e : Ex F F') (h : KvA K F kvs ds) : KvA K F' kvs ds := ⟨h.1, h.2.mono e⟩

/-- what stands at an owned address -/
def Own1 (K : PySem.W.Frag) (F H : Hp) (l : Addr) : Ct → Prop
  | .l xs => ∃ vs, H l = some (.lst vs) ∧ RpA K F vs xs
  | .d ds => ∃ kvs, H l = some (.dK kvs) ∧ KvA K F kvs ds
  | .t ds => ∃ kvs, H l = some (.dT kvs) ∧ KvA K F kvs ds
def SlOk (K : PySem.W.Frag) (F H : Hp) (o : Option V) (s : Sl) : Prop :=
  match s with
  | .un => True
  | .d x => ∃ v, o = some v ∧ Rp K F v x
  | .v x => o = some x
  | .o p c => ∃ l, o = some (.ref l) ∧ (p = none ∨ p = some l) ∧ Own1 K F H l c
def Sl.isOwn : Sl → Bool
  | .o _ _ => true
  | _ => false
/-- the addresses that a slot owns -/
def Owns (σ : L2.St) (ρ : En) (i : Nat) (a : Addr) : Prop := σ[i]? = some (some (.ref a)) ∧ ∃ s, ρ[i]? = some s ∧ s.isOwn = true

/-- not frozen, or a tuple -/
def Nt (F : Hp) (a : Addr) : Prop := F a = none ∨ ∃ xs, F a = some (.tup xs)
theorem Nt.mono {F F' : Hp} {a : Addr} (x : Ex F F') (h : Nt F a) (k : F a = none → Nt F' a) : Nt F' a := by
  rcases h with h | ⟨xs, h⟩
  · exact k h
  · exact .inr ⟨xs, x _ _ h⟩
/-- the entry: the frozen heap, the heap, what may be changed of it -/
structure Cn where
  F0 : Hp
  H0 : Hp
  M : List Addr
/-- what holds of F and H through the body -/
structure Fr (C : Cn) (F H : Hp) : Prop where
  ext : Ex F H
  f0 : Ex C.F0 F
  h0 : ∀ a o, C.H0 a = some o → a ∉ C.M → H a = some o
  there : ∀ a, H a = none → C.H0 a = none
  new : ∀ a, C.H0 a ≠ none → C.F0 a = none → Nt F a
  mM : ∀ a ∈ C.M, C.H0 a ≠ none
structure SE (K : PySem.W.Frag) (C : Cn) (F H : Hp) (σ : L2.St) (ρ : En) : Prop where
  fr : Fr C F H
  len : σ.length = ρ.length
  ok : ∀ (i : Nat) (s : Sl), ρ[i]? = some s → SlOk K F H (σ[i]?.join) s
  sep : ∀ (i j : Nat) (a : Addr), Owns σ ρ i a → Owns σ ρ j a → i = j
  own : ∀ (i : Nat) (a : Addr), Owns σ ρ i a → F a = none ∧ H a ≠ none ∧ (C.H0 a = none ∨ a ∈ C.M)
  fresh : ∀ (i : Nat) (a : Addr) (c : Ct), ρ[i]? = some (.o none c) → σ[i]? = some (some (.ref a)) → C.H0 a = none

/-! ### growth -/
/-- F and H grow by new objects -/
structure Gr (F H F' H' : Hp) : Prop where
  f : Ex F F'
  h : Ex H H'
  fh : Ex F' H'
  new : ∀ a, H a ≠ none → F a = none → Nt F' a
theorem Gr.refl {F H : Hp} (e : Ex F H) : Gr F H F H := ⟨.refl _, .refl _, e, fun _ _ h => .inl h⟩
theorem Gr.trans {F H F1 H1 F2 H2 : Hp} (a : Gr F H F1 H1) (b : Gr F1 H1 F2 H2) : Gr F H F2 H2 :=
  ⟨a.f.trans b.f, a.h.trans b.h, b.fh, fun x hx fx => (a.new x hx fx).mono b.f (b.new x (fun z => hx (a.h.none z)))⟩
theorem ne_none {H : Hp} {a : Addr} {o : HO} (h : H a = some o) : H a ≠ none := by rw [h]; exact fun z => nomatch z
theorem some_of {H : Hp} {a : Addr} (h : H a ≠ none) : ∃ o, H a = some o := by
  cases e : H a with
  | none => exact absurd e h
  | some o => exact ⟨o, rfl⟩
theorem ex_upd {F H : Hp} {p : Addr} {o : HO} (e : Ex F H) : Ex (upd F p o) (upd H p o) := fun a u h => by
  by_cases q : a = p
  · rw [q, upd_same] at h ⊢; exact h
  · rw [upd_ne q] at h ⊢; exact e a u h
/-- a new frozen object -/
theorem Gr.push {F H : Hp} {p : Addr} {o : HO} (e : Ex F H) (hp : H p = none) : Gr F H (upd F p o) (upd H p o) :=
  ⟨.new (e.none hp), .new hp, ex_upd e, fun a ha fa => .inl (by rw [upd_ne (fun z => ha (by rw [z]; exact hp))]; exact fa)⟩
/-- a new object, not frozen -/
theorem Gr.side {F H : Hp} {p : Addr} {o : HO} (e : Ex F H) (hp : H p = none) : Gr F H F (upd H p o) :=
  ⟨.refl _, .new hp, e.trans (.new hp), fun _ _ h => .inl h⟩
section
variable {K : PySem.W.Frag} {C : Cn} {F H F' H' : Hp} {σ : L2.St} {ρ : En}
theorem Fr.grow (f : Fr C F H) (g : Gr F H F' H') : Fr C F' H' :=
  ⟨g.fh, f.f0.trans g.f, fun a o h m => g.h a o (f.h0 a o h m), fun a h => f.there a (g.h.none h), fun a h z => (f.new a h z).mono g.f (g.new a (fun q => h (f.there a q))), f.mM⟩
theorem Own1.grow {l : Addr} {s : Ct} (x : Ex F F') (h2 : ∀ o, H l = some o → H' l = some o) (h : Own1 K F H l s) : Own1 K F' H' l s := by
  cases s with
  | l xs => obtain ⟨vs, a, b⟩ := h; exact ⟨vs, h2 _ a, b.mono x⟩
  | d xs => obtain ⟨vs, a, b⟩ := h; exact ⟨vs, h2 _ a, b.mono x⟩
  | t xs => obtain ⟨vs, a, b⟩ := h; exact ⟨vs, h2 _ a, b.mono x⟩
theorem Own1.some {l : Addr} {s : Ct} (h : Own1 K F H l s) : H l ≠ none := by
  cases s with
  | l xs => obtain ⟨vs, a, b⟩ := h; exact ne_none a
  | d xs => obtain ⟨vs, a, b⟩ := h; exact ne_none a
  | t xs => obtain ⟨vs, a, b⟩ := h; exact ne_none a
theorem Own1.nt {l : Addr} {s : Ct} (h : Own1 K F H l s) (xs : List V) : H l ≠ Option.some (.tup xs) := fun z => by
  cases s with
  | l xs => obtain ⟨vs, a, b⟩ := h; rw [a] at z; cases z
  | d xs => obtain ⟨vs, a, b⟩ := h; rw [a] at z; cases z
  | t xs => obtain ⟨vs, a, b⟩ := h; rw [a] at z; cases z
theorem SlOk.grow {o : Option V} {s : Sl} (x : Ex F F') (h2 : ∀ l u, o = .some (.ref l) → s.isOwn = true → H l = .some u → H' l = .some u) (h : SlOk K F H o s) : SlOk K F' H' o s := by
  cases s with
  | un => exact h
  | d x' => obtain ⟨v, a, b⟩ := h; exact ⟨v, a, b.mono x⟩
  | v x' => exact h
  | o p c => obtain ⟨l, a, p', b⟩ := h; exact ⟨l, a, p', b.grow x (fun u => h2 l u a rfl)⟩
theorem SE.nt (e : SE K C F H σ ρ) {i : Nat} {a : Addr} (h : Owns σ ρ i a) (xs : List V) : H a ≠ some (.tup xs) := by
  obtain ⟨h1, s, h2, h3⟩ := h
  have h4 := e.ok i s h2
  cases s with
  | o p c =>
    obtain ⟨l, q, _, q2⟩ := h4
    rw [h1] at q
    cases q
    exact q2.nt xs
  | _ => cases h3
theorem Nt.none {F H : Hp} {a : Addr} (h : Nt F a) (e : Ex F H) (n : ∀ xs, H a ≠ some (.tup xs)) : F a = none := by
  rcases h with h | ⟨xs, h⟩
  · exact h
  · exact absurd (e _ _ h) (n xs)
theorem SE.grow (e : SE K C F H σ ρ) (g : Gr F H F' H') : SE K C F' H' σ ρ :=
  ⟨e.fr.grow g, e.len, fun i s h => (e.ok i s h).grow g.f (fun _ _ _ _ q => g.h _ _ q), e.sep, fun i a h => by
    obtain ⟨x, y, z⟩ := e.own i a h
    obtain ⟨o, ho⟩ := some_of y
    exact ⟨(g.new a y x).none g.fh (fun xs q => e.nt h xs (by rw [g.h a o ho] at q; rw [ho, q])), fun q => y (g.h.none q), z⟩, e.fresh⟩

/-! ### slots read and set -/
theorem set_at {α : Type} {l : List α} {i : Nat} {x y : α} (h : (l.set i x)[i]? = some y) : x = y ∧ i < l.length := by
  rw [List.getElem?_set, if_pos rfl] at h
  split at h
  · rename_i q; exact ⟨Option.some.inj h, q⟩
  · cases h
theorem join_some {α : Type} {x : Option (Option α)} {v : α} (h : x.join = some v) : x = some (some v) := by
  cases x with
  | none => cases h
  | some o => exact congrArg some h
theorem SE.get (e : SE K C F H σ ρ) {i : Nat} {x : PyData} (h : ρ[i]? = some (.d x)) : ∃ v, σ[i]? = some (some v) ∧ Rp K F v x := by
  obtain ⟨v, a, b⟩ := e.ok i _ h
  exact ⟨v, join_some a, b⟩
theorem SE.getO (e : SE K C F H σ ρ) {i : Nat} {p : Option Addr} {c : Ct} (h : ρ[i]? = some (.o p c)) : ∃ l, σ[i]? = some (some (.ref l)) ∧ (p = none ∨ p = some l) ∧ Own1 K F H l c ∧ Owns σ ρ i l := by
  obtain ⟨l, a, b, d⟩ := e.ok i _ h
  exact ⟨l, join_some a, b, d, join_some a, _, h, rfl⟩
theorem own_set {i j : Nat} {o : Option V} {s : Sl} {a : Addr} (h : Owns (σ.set i o) (ρ.set i s) j a) : (j = i ∧ o = some (.ref a) ∧ s.isOwn = true) ∨ (j ≠ i ∧ Owns σ ρ j a) := by
  obtain ⟨h1, t, h2, h3⟩ := h
  by_cases q : j = i
  · subst q
    exact .inl ⟨rfl, (set_at h1).1, by rw [(set_at h2).1]; exact h3⟩
  · rw [List.getElem?_set_ne (Ne.symm q)] at h1 h2
    exact .inr ⟨q, h1, t, h2, h3⟩
theorem SE.set (e : SE K C F H σ ρ) {i : Nat} {v : V} {s : Sl} (h : SlOk K F H (some v) s) (hn : s.isOwn = true → ∀ a, v = .ref a → F a = none ∧ H a ≠ none ∧ (C.H0 a = none ∨ a ∈ C.M) ∧ (∀ j, j ≠ i → ¬ Owns σ ρ j a) ∧ (∀ c, s = .o none c → C.H0 a = none)) : SE K C F H (σ.set i (some v)) (ρ.set i s) := by
  refine ⟨e.fr, by rw [List.length_set, List.length_set, e.len], fun j t ht => ?_, fun j k a hj hk => ?_, fun j a hj => ?_, fun j a c h1 h2 => ?_⟩
  · by_cases q : j = i
    · subst q
      obtain ⟨rfl, hj⟩ := set_at ht
      rw [List.getElem?_set, if_pos rfl, if_pos (by rw [e.len]; exact hj)]
      exact h
    · rw [List.getElem?_set_ne (Ne.symm q)] at ht ⊢
      exact e.ok j t ht
  · rcases own_set hj with ⟨rfl, o1, s1⟩ | ⟨n1, o1⟩ <;> rcases own_set hk with ⟨rfl, o2, s2⟩ | ⟨n2, o2⟩
    · rfl
    · exact absurd o2 ((hn s1 a (Option.some.inj o1)).2.2.2.1 k n2)
    · exact absurd o1 ((hn s2 a (Option.some.inj o2)).2.2.2.1 j n1)
    · exact e.sep j k a o1 o2
  · rcases own_set hj with ⟨rfl, o1, s1⟩ | ⟨n1, o1⟩
    · exact ⟨(hn s1 a (Option.some.inj o1)).1, (hn s1 a (Option.some.inj o1)).2.1, (hn s1 a (Option.some.inj o1)).2.2.1⟩
    · exact e.own j a o1
  · by_cases q : j = i
    · subst q
      obtain ⟨q1, _⟩ := set_at h1
      obtain ⟨q2, _⟩ := set_at h2
      exact (hn (by rw [q1]; rfl) a (Option.some.inj q2)).2.2.2.2 c q1
    · rw [List.getElem?_set_ne (Ne.symm q)] at h1 h2
      exact e.fresh j a c h1 h2
theorem SE.setD (e : SE K C F H σ ρ) {i : Nat} {v : V} {x : PyData} (h : Rp K F v x) : SE K C F H (σ.set i (some v)) (ρ.set i (.d x)) :=
  e.set ⟨v, rfl, h⟩ fun z => nomatch z
theorem SE.setU (e : SE K C F H σ ρ) {i : Nat} {v : V} : SE K C F H (σ.set i (some v)) (ρ.set i .un) := e.set trivial fun z => nomatch z
/-- a name is given a new object -/
theorem SE.setOwn (e : SE K C F H σ ρ) {i : Nat} {c : Ct} {p : Addr} (fp : F p = none) (h0 : C.H0 p = none) (no : ∀ j, ¬ Owns σ ρ j p) (h : Own1 K F H p c) : SE K C F H (σ.set i (some (.ref p))) (ρ.set i (.o none c)) :=
  e.set ⟨p, rfl, .inl rfl, h⟩ fun _ a q => by
    cases q
    exact ⟨fp, h.some, .inl h0, fun j _ o => no j o, fun _ _ => h0⟩
theorem slot_own {s : Sl} {j : Nat} {b : Addr} (h : ρ[j]? = some s) (o : s.isOwn = true) (c : σ[j]? = some (some (.ref b))) : Owns σ ρ j b := ⟨c, s, h, o⟩
/-- an owned object has changed -/
theorem SE.wr (e : SE K C F H σ ρ) {i : Nat} {l : Addr} {p : Option Addr} {c c' : Ct} {o : HO} (hi : ρ[i]? = some (.o p c)) (hl : σ[i]? = some (some (.ref l))) (h : Own1 K F (L2.upd H l o) l c') : SE K C F (L2.upd H l o) σ (ρ.set i (.o p c')) := by
  have ow : Owns σ ρ i l := ⟨hl, _, hi, rfl⟩
  obtain ⟨w1, w2, w3⟩ := e.own i l ow
  have hp : p = none ∨ p = some l := by
    obtain ⟨l', a, b, _⟩ := e.getO hi
    rw [hl] at a
    cases a
    exact b
  have eF : Ex F (L2.upd H l o) := fun a u hu => by
    have na : a ≠ l := fun z => by rw [z, w1] at hu; cases hu
    rw [upd_ne na]; exact e.fr.ext a u hu
  have conv : ∀ j a, Owns σ (ρ.set i (.o p c')) j a → Owns σ ρ j a := fun j a hj => by
    obtain ⟨h1, t, h2, h3⟩ := hj
    by_cases q : j = i
    · subst q
      rw [hl] at h1
      cases h1
      exact ow
    · rw [List.getElem?_set_ne (Ne.symm q)] at h2
      exact ⟨h1, t, h2, h3⟩
  refine ⟨⟨eF, e.fr.f0, fun a u hu m => ?_, fun a ha => ?_, e.fr.new, e.fr.mM⟩, by rw [List.length_set]; exact e.len, fun j t ht => ?_, fun j k a hj hk => e.sep j k a (conv j a hj) (conv k a hk), fun j a hj => ?_, fun j a d h1 h2 => ?_⟩
  · by_cases q : a = l
    · subst q
      rcases w3 with z | z
      · rw [z] at hu; cases hu
      · exact absurd z m
    · rw [upd_ne q]; exact e.fr.h0 a u hu m
  · by_cases q : a = l
    · subst q; rw [upd_same] at ha; cases ha
    · rw [upd_ne q] at ha; exact e.fr.there a ha
  · by_cases q : j = i
    · subst q
      obtain ⟨rfl, _⟩ := set_at ht
      rw [hl]
      exact ⟨l, rfl, hp, h⟩
    · rw [List.getElem?_set_ne (Ne.symm q)] at ht
      refine (e.ok j t ht).grow (.refl _) fun b u hb ot hu => ?_
      rw [upd_ne (fun nb => q (by subst nb; exact e.sep j i b (slot_own ht ot (join_some hb)) ow))]
      exact hu
  · obtain ⟨x1, x2, x3⟩ := e.own j a (conv j a hj)
    refine ⟨x1, ?_, x3⟩
    by_cases q : a = l
    · subst q; rw [upd_same]; exact fun z => nomatch z
    · rw [upd_ne q]; exact x2
  · by_cases q : j = i
    · subst q
      obtain ⟨q1, _⟩ := set_at h1
      cases q1
      exact e.fresh j a c hi h2
    · rw [List.getElem?_set_ne (Ne.symm q)] at h1
      exact e.fresh j a d h1 h2
/-- an object that nothing owns is frozen -/
theorem SE.frz (e : SE K C F H σ ρ) {p : Addr} {o : HO} (fp : F p = none) (hp : H p = some o) (h0 : C.H0 p = none) (no : ∀ j, ¬ Owns σ ρ j p) : SE K C (L2.upd F p o) H σ ρ := by
  have ex : Ex F (L2.upd F p o) := .new fp
  refine ⟨⟨fun a u h => ?_, e.fr.f0.trans ex, e.fr.h0, e.fr.there, fun a h z => ?_, e.fr.mM⟩, e.len, fun i s hs => (e.ok i s hs).grow ex (fun _ _ _ _ q => q), e.sep, fun i a ha => ?_, ?_⟩
  · by_cases q : a = p
    · rw [q, upd_same] at h; rw [q, hp]; exact h
    · rw [upd_ne q] at h; exact e.fr.ext a u h
  · exact (e.fr.new a h z).mono ex (fun y => .inl (by rw [upd_ne (fun q => h (by rw [q]; exact h0))]; exact y))
  · obtain ⟨x, y, z⟩ := e.own i a ha
    exact ⟨by rw [upd_ne (fun q => no i (by rw [← q]; exact ha))]; exact x, y, z⟩
  · exact e.fresh
theorem not_owns_new (e : SE K C F H σ ρ) {p : Addr} (hp : H p = none) : ∀ j, ¬ Owns σ ρ j p := fun j o => (e.own j p o).2.1 hp
/-- an object that a name owned (a new one) becomes data -/
theorem SE.thaw (e : SE K C F H σ ρ) {i : Nat} {l : Addr} {c : Ct} {o : HO} {x : PyData} (hi : ρ[i]? = some (.o none c)) (hl : σ[i]? = some (some (.ref l))) (ho : H l = some o) (hx : Rp K (L2.upd F l o) (.ref l) x) : SE K C (L2.upd F l o) H σ (ρ.set i (.d x)) := by
  have ow : Owns σ ρ i l := ⟨hl, _, hi, rfl⟩
  have hn : C.H0 l = none := e.fresh i l c hi hl
  obtain ⟨w1, w2, w3⟩ := e.own i l ow
  have conv : ∀ j a, Owns σ (ρ.set i (.d x)) j a → j ≠ i ∧ Owns σ ρ j a := fun j a hj => by
    obtain ⟨h1, t, h2, h3⟩ := hj
    by_cases q : j = i
    · subst q
      obtain ⟨rfl, _⟩ := set_at h2
      cases h3
    · rw [List.getElem?_set_ne (Ne.symm q)] at h2
      exact ⟨q, h1, t, h2, h3⟩
  have ex : Ex F (L2.upd F l o) := .new w1
  refine ⟨⟨fun a u h => ?_, e.fr.f0.trans ex, e.fr.h0, e.fr.there, fun a h z => ?_, e.fr.mM⟩, by rw [List.length_set]; exact e.len, fun j t ht => ?_, fun j k a hj hk => e.sep j k a (conv j a hj).2 (conv k a hk).2, fun j a hj => ?_, fun j a d h1 h2 => ?_⟩
  · by_cases q : a = l
    · rw [q, upd_same] at h; rw [q, ho]; exact h
    · rw [upd_ne q] at h; exact e.fr.ext a u h
  · exact (e.fr.new a h z).mono ex (fun y => .inl (by rw [upd_ne (fun q => h (by rw [q]; exact hn))]; exact y))
  · by_cases q : j = i
    · subst q
      obtain ⟨rfl, _⟩ := set_at ht
      rw [hl]
      exact ⟨_, rfl, hx⟩
    · rw [List.getElem?_set_ne (Ne.symm q)] at ht
      exact (e.ok j t ht).grow ex (fun _ _ _ _ z => z)
  · obtain ⟨q, oj⟩ := conv j a hj
    obtain ⟨x1, x2, x3⟩ := e.own j a oj
    exact ⟨by rw [upd_ne (fun z => q (by subst z; exact e.sep j i a oj ow))]; exact x1, x2, x3⟩
  · by_cases q : j = i
    · subst q
      obtain ⟨q1, _⟩ := set_at h1
      cases q1
    · rw [List.getElem?_set_ne (Ne.symm q)] at h1
      exact e.fresh j a d h1 h2

/-- .. and locked -/
theorem SE.thawF (e : SE K C F H σ ρ) {i : Nat} {l : Addr} {c : Ct} {o : HO} {x : PyData} (hi : ρ[i]? = some (.o none c)) (hl : σ[i]? = some (some (.ref l))) (hx : Rp K (L2.upd F l o) (.ref l) x) : SE K C (L2.upd F l o) (L2.upd H l o) σ (ρ.set i (.d x)) := by
  have ow : Owns σ ρ i l := ⟨hl, _, hi, rfl⟩
  have hn : C.H0 l = none := e.fresh i l c hi hl
  obtain ⟨w1, w2, w3⟩ := e.own i l ow
  have conv : ∀ j a, Owns σ (ρ.set i (.d x)) j a → j ≠ i ∧ Owns σ ρ j a := fun j a hj => by
    obtain ⟨h1, t, h2, h3⟩ := hj
    by_cases q : j = i
    · subst q
      obtain ⟨rfl, _⟩ := set_at h2
      cases h3
    · rw [List.getElem?_set_ne (Ne.symm q)] at h2
      exact ⟨q, h1, t, h2, h3⟩
  have ex : Ex F (L2.upd F l o) := .new w1
  refine ⟨⟨fun a u h => ?_, e.fr.f0.trans ex, fun a u hu m => ?_, fun a ha => ?_, fun a h z => ?_, e.fr.mM⟩, by rw [List.length_set]; exact e.len, fun j t ht => ?_, fun j k a hj hk => e.sep j k a (conv j a hj).2 (conv k a hk).2, fun j a hj => ?_, fun j a d h1 h2 => ?_⟩
  · by_cases q : a = l
    · rw [q, upd_same] at h ⊢; exact h
    · rw [upd_ne q] at h ⊢; exact e.fr.ext a u h
  · rw [upd_ne (fun q => by rw [q, hn] at hu; cases hu)]; exact e.fr.h0 a u hu m
  · by_cases q : a = l
    · rw [q, upd_same] at ha; cases ha
    · rw [upd_ne q] at ha; exact e.fr.there a ha
  · exact (e.fr.new a h z).mono ex (fun y => .inl (by rw [upd_ne (fun q => h (by rw [q]; exact hn))]; exact y))
  · by_cases q : j = i
    · subst q
      obtain ⟨rfl, _⟩ := set_at ht
      rw [hl]
      exact ⟨_, rfl, hx⟩
    · rw [List.getElem?_set_ne (Ne.symm q)] at ht
      refine (e.ok j t ht).grow ex (fun b u hb ot hu => ?_)
      rw [upd_ne (fun nb => q (by subst nb; exact e.sep j i b (slot_own ht ot (join_some hb)) ow))]
      exact hu
  · obtain ⟨q, oj⟩ := conv j a hj
    obtain ⟨x1, x2, x3⟩ := e.own j a oj
    have na : a ≠ l := fun z => by subst z; exact q (e.sep j i a oj ow)
    exact ⟨by rw [upd_ne na]; exact x1, by rw [upd_ne na]; exact x2, x3⟩
  · by_cases q : j = i
    · subst q
      obtain ⟨q1, _⟩ := set_at h1
      cases q1
    · rw [List.getElem?_set_ne (Ne.symm q)] at h1
      exact e.fresh j a d h1 h2
/-- an object that nothing owns is locked and frozen -/
theorem SE.frzF (e : SE K C F H σ ρ) {p : Addr} {o : HO} (fp : F p = none) (h0 : C.H0 p = none) (no : ∀ j, ¬ Owns σ ρ j p) : SE K C (L2.upd F p o) (L2.upd H p o) σ ρ := by
  have ex : Ex F (L2.upd F p o) := .new fp
  refine ⟨⟨fun a u h => ?_, e.fr.f0.trans ex, fun a u hu m => ?_, fun a ha => ?_, fun a h z => ?_, e.fr.mM⟩, e.len, fun i s hs => (e.ok i s hs).grow ex (fun b u hb ot hu => ?_), e.sep, fun i a ha => ?_, ?_⟩
  · by_cases q : a = p
    · rw [q, upd_same] at h ⊢; exact h
    · rw [upd_ne q] at h ⊢; exact e.fr.ext a u h
  · rw [upd_ne (fun q => by rw [q, h0] at hu; cases hu)]; exact e.fr.h0 a u hu m
  · by_cases q : a = p
    · rw [q, upd_same] at ha; cases ha
    · rw [upd_ne q] at ha; exact e.fr.there a ha
  · exact (e.fr.new a h z).mono ex (fun y => .inl (by rw [upd_ne (fun q => h (by rw [q]; exact h0))]; exact y))
  · rw [upd_ne (fun nb => no i (by subst nb; exact slot_own hs ot (join_some hb)))]; exact hu
  · obtain ⟨x, y, z⟩ := e.own i a ha
    have na : a ≠ p := fun q => no i (by rw [← q]; exact ha)
    exact ⟨by rw [upd_ne na]; exact x, by rw [upd_ne na]; exact y, z⟩
  · exact e.fresh
/-- a tuple that stands is frozen -/
theorem SE.frzT (e : SE K C F H σ ρ) {p : Addr} {xs : List V} (hp : H p = some (.tup xs)) (np : F p = none) : SE K C (L2.upd F p (.tup xs)) H σ ρ := by
  have ex : Ex F (L2.upd F p (.tup xs)) := .new np
  refine ⟨⟨fun a u h => ?_, e.fr.f0.trans ex, e.fr.h0, e.fr.there, fun a h z => ?_, e.fr.mM⟩, e.len, fun i s hs => (e.ok i s hs).grow ex (fun _ _ _ _ q => q), e.sep, fun i a ha => ?_, e.fresh⟩
  · by_cases q : a = p
    · rw [q, upd_same] at h; rw [q, hp]; exact h
    · rw [upd_ne q] at h; exact e.fr.ext a u h
  · refine (e.fr.new a h z).mono ex (fun y => ?_)
    by_cases q : a = p
    · exact .inr ⟨xs, by rw [q, upd_same]⟩
    · exact .inl (by rw [upd_ne q]; exact y)
  · obtain ⟨x, y, z⟩ := e.own i a ha
    exact ⟨by rw [upd_ne (fun q => e.nt ha xs (by rw [q]; exact hp))]; exact x, y, z⟩

/-! ### less said -/
inductive Le : En → En → Prop
  | nil : Le [] []
  | un {s : Sl} {ρ ρ' : En} : Le ρ ρ' → Le (.un :: ρ) (s :: ρ')
  | eq {s : Sl} {ρ ρ' : En} : Le ρ ρ' → Le (s :: ρ) (s :: ρ')
theorem Le.refl : ∀ ρ : En, Le ρ ρ
  | [] => .nil
  | _ :: ρ => .eq (Le.refl ρ)
theorem Le.len : ∀ {ρ ρ' : En}, Le ρ ρ' → ρ.length = ρ'.length
  | _, _, .nil => rfl
  | _, _, .un h => by rw [List.length_cons, List.length_cons, Le.len h]
  | _, _, .eq h => by rw [List.length_cons, List.length_cons, Le.len h]
theorem Le.get : ∀ {ρ ρ' : En} {i : Nat} {s : Sl}, Le ρ ρ' → ρ[i]? = some s → s = .un ∨ ρ'[i]? = some s
  | _, _, _, _, .nil, h => by simp at h
  | _, _, 0, s, .un _, h => by simp at h; exact .inl h.symm
  | _, _, 0, s, .eq _, h => by simp at h; subst h; exact .inr rfl
  | _, _, i + 1, s, .un r, h => by
    have := Le.get (i := i) (s := s) r (by simpa using h)
    simpa using this
  | _, _, i + 1, s, .eq r, h => by
    have := Le.get (i := i) (s := s) r (by simpa using h)
    simpa using this
theorem SE.le {ρ' : En} (e : SE K C F H σ ρ) (h : Le ρ' ρ) : SE K C F H σ ρ' := by
  have conv : ∀ j a, Owns σ ρ' j a → Owns σ ρ j a := fun j a ⟨h1, t, h2, h3⟩ => by
    rcases h.get h2 with z | z
    · subst z; cases h3
    · exact ⟨h1, t, z, h3⟩
  refine ⟨e.fr, e.len.trans h.len.symm, fun i s hs => ?_, fun j k a hj hk => e.sep j k a (conv j a hj) (conv k a hk), fun j a hj => e.own j a (conv j a hj), fun j a c h1 h2 => ?_⟩
  · rcases h.get hs with z | z
    · subst z; trivial
    · exact e.ok i s z
  · rcases h.get h1 with z | z
    · cases z
    · exact e.fresh j a c z h2
/-- σ forgotten where nothing is said -/
theorem SE.sub {σ' : L2.St} (e : SE K C F H σ ρ) (hl : σ'.length = σ.length) (h : ∀ (i : Nat) (s : Sl), ρ[i]? = some s → s ≠ Sl.un → σ'[i]? = σ[i]?) : SE K C F H σ' ρ := by
  have conv : ∀ j a, Owns σ' ρ j a → Owns σ ρ j a := fun j a ⟨h1, t, h2, h3⟩ => ⟨by rw [← h j t h2 (fun z => by subst z; cases h3)]; exact h1, t, h2, h3⟩
  refine ⟨e.fr, hl.trans e.len, fun i s hs => ?_, fun j k a hj hk => e.sep j k a (conv j a hj) (conv k a hk), fun j a hj => e.own j a (conv j a hj), fun j a c h1 h2 => e.fresh j a c h1 (by rw [← h j _ h1 (fun z => nomatch z)]; exact h2)⟩
  by_cases q : s = .un
  · subst q; trivial
  · rw [h i s hs q]; exact e.ok i s hs
/-- another entry -/
theorem SE.rebase (e : SE K C F H σ ρ) : SE K ⟨F, C.H0, C.M⟩ F H σ ρ := ⟨⟨e.fr.ext, .refl _, e.fr.h0, e.fr.there, fun _ _ z => .inl z, e.fr.mM⟩, e.len, e.ok, e.sep, e.own, e.fresh⟩
theorem SE.unbase {F1 H1 : Hp} (f : Fr C F1 H1) (e : SE K ⟨F1, C.H0, C.M⟩ F H σ ρ) : SE K C F H σ ρ :=
  ⟨⟨e.fr.ext, f.f0.trans e.fr.f0, e.fr.h0, e.fr.there, fun a h z => (f.new a h z).mono e.fr.f0 (e.fr.new a h), e.fr.mM⟩, e.len, e.ok, e.sep, e.own, e.fresh⟩
end
end G

/-! GExpr: expressions and tests in words of data. -/
namespace G
open PySem PySem.Spec PyProof.Rows L2

section
variable {X : Cx}
theorem PE_imp {e : Expr} {t t' : TE} (h : PE X e t) (i : ∀ σ H Q, t' σ H Q → t σ H Q) : PE X e t' := ⟨fun pins s σ H Q I q => h.run pins s σ H Q I (i _ _ _ q)⟩
theorem PT_imp {e : Expr} {t t' : TT} (h : PT X e t) (i : ∀ σ H Q, t' σ H Q → t σ H Q) : PT X e t' := ⟨fun pins s σ H Q I q => h.run pins s σ H Q I (i _ _ _ q)⟩
theorem PW_imp {e : Expr} {t t' : TT} (h : PW X e t) (i : ∀ σ H Q, t' σ H Q → t σ H Q) : PW X e t' := ⟨fun wh pins s σ H Q I q => h.run wh pins s σ H Q I (i _ _ _ q)⟩
theorem PA_imp {e : List Expr} {t t' : TA} (h : PA X e t) (i : ∀ σ H Q, t' σ H Q → t σ H Q) : PA X e t' := ⟨fun pos pins s σ H Q I q => h.run pos pins s σ H Q I (i _ _ _ q)⟩
theorem PS_imp {e : Stmt} {t t' : TS} (h : PS X e t) (i : ∀ D σ H, t' D σ H → t D σ H) : PS X e t' := ⟨fun pins s σ H Q I q => h.run pins s σ H Q I (i _ _ _ q)⟩
theorem PSs_imp {e : List Stmt} {t t' : TS} (h : PSs X e t) (i : ∀ D σ H, t' D σ H → t D σ H) : PSs X e t' := ⟨fun pins s σ H Q I q => h.run pins s σ H Q I (i _ _ _ q)⟩
theorem PE_ex {ι : Type} {e : Expr} {t : ι → TE} (h : ∀ i, PE X e (t i)) : PE X e (fun σ H Q => ∃ i, t i σ H Q) := ⟨fun pins s σ H Q I ⟨i, q⟩ => (h i).run pins s σ H Q I q⟩
theorem PT_ex {ι : Type} {e : Expr} {t : ι → TT} (h : ∀ i, PT X e (t i)) : PT X e (fun σ H Q => ∃ i, t i σ H Q) := ⟨fun pins s σ H Q I ⟨i, q⟩ => (h i).run pins s σ H Q I q⟩
theorem PTs_ex {ι : Type} {e : List Expr} {t : ι → TT} (h : ∀ i, PTs X e (t i)) : PTs X e (fun σ H Q => ∃ i, t i σ H Q) := ⟨fun pins s σ H Q I ⟨i, q⟩ => (h i).run pins s σ H Q I q⟩
theorem PSs_ex {ι : Type} {e : List Stmt} {t : ι → TS} (h : ∀ i, PSs X e (t i)) : PSs X e (fun D σ H => ∃ i, t i D σ H) := ⟨fun pins s σ H D I ⟨i, q⟩ => (h i).run pins s σ H D I q⟩
end

/-! ### readings -/
/-- data x comes, the slots are then ρ' -/
def tP (K : PySem.W.Frag) (ρ : En) (x : PyData) (ρ' : En) : TE := fun σ H Q => ∃ C F, SE K C F H σ ρ ∧ ∀ v F' H', Ex F F' → SE K C F' H' σ ρ' → Rp K F' v x → Q v H'
/-- a new object comes -/
def tN (K : PySem.W.Frag) (ρ : En) (s : Ct) (ρ' : En) : TE := fun σ H Q => ∃ C F, SE K C F H σ ρ ∧ ∀ p F' H', Ex F F' → SE K C F' H' σ ρ' → F' p = none → C.H0 p = none → (∀ j, ¬ Owns σ ρ' j p) → Own1 K F' H' p s → Q (.ref p) H'
/-- a list comes: data, or the one that the slot owns -/
def SrcV (K : PySem.W.Frag) (F : Hp) (σ : L2.St) (src : Option Nat) (v : V) (xs : List PyData) : Prop :=
  match src with
  | none => ∃ a vs, v = .ref a ∧ SqL K F a vs ∧ RpA K F vs xs
  | some i => ∃ a, v = .ref a ∧ σ[i]? = some (some (.ref a))
def SrcOk (ρ : En) (src : Option Nat) (xs : List PyData) : Prop :=
  match src with
  | none => True
  | some i => ∃ p, ρ[i]? = some (.o p (.l xs))
def tQ (K : PySem.W.Frag) (ρ : En) (src : Option Nat) (xs : List PyData) (ρ' : En) : TE := fun σ H Q => ∃ C F, SE K C F H σ ρ ∧ ∀ v F' H', Ex F F' → SE K C F' H' σ ρ' → SrcV K F' σ src v xs → Q v H'
def tT (K : PySem.W.Frag) (ρ : En) (b : Bool) (ρ' : En) : TT := fun σ H Q => ∃ C F, SE K C F H σ ρ ∧ ∀ F' H', Ex F F' → SE K C F' H' σ ρ' → Q b H'
def tAs (K : PySem.W.Frag) (ρ : En) (xs : List PyData) (ρ' : En) : TA := fun σ H Q => ∃ C F, SE K C F H σ ρ ∧ ∀ vs F' H', Ex F F' → SE K C F' H' σ ρ' → RpA K F' vs xs → Q vs H'

abbrev PD (X : Cx) (e : Expr) (ρ : En) (x : PyData) (ρ' : En) : Prop := PE X e (tP X.K ρ x ρ')
abbrev PN (X : Cx) (e : Expr) (ρ : En) (s : Ct) (ρ' : En) : Prop := PE X e (tN X.K ρ s ρ')
abbrev PQ (X : Cx) (e : Expr) (ρ : En) (src : Option Nat) (xs : List PyData) (ρ' : En) : Prop := PE X e (tQ X.K ρ src xs ρ')
abbrev TD (X : Cx) (e : Expr) (ρ : En) (b : Bool) (ρ' : En) : Prop := PT X e (tT X.K ρ b ρ')
abbrev WD (X : Cx) (e : Expr) (ρ : En) (b : Bool) (ρ' : En) : Prop := PW X e (tT X.K ρ b ρ')
abbrev AD (X : Cx) (es : List Expr) (ρ : En) (xs : List PyData) (ρ' : En) : Prop := PA X es (tAs X.K ρ xs ρ')

section
variable {K : PySem.W.Frag} {C : Cn} {F H F' H' : Hp} {σ : L2.St} {ρ : En}
theorem SrcV.mono {src : Option Nat} {v : V} {xs : List PyData} (x : Ex F F') (h : SrcV K F σ src v xs) : SrcV K F' σ src v xs := by
  cases src with
  | none => obtain ⟨a, vs, b, c, d⟩ := h; exact ⟨a, vs, b, x.l c, d.mono x⟩
  | some i => exact h
theorem SrcV.look {src : Option Nat} {v : V} {xs : List PyData} (e : SE K C F H σ ρ) (h : SrcV K F σ src v xs) (ok : SrcOk ρ src xs) : ∃ a vs, v = .ref a ∧ SqL K H a vs ∧ RpA K F vs xs := by
  cases src with
  | none => obtain ⟨a, vs, b, c, d⟩ := h; exact ⟨a, vs, b, e.fr.ext.l c, d⟩
  | some i =>
    obtain ⟨a, rfl, h⟩ := h
    obtain ⟨p, ok⟩ := ok
    obtain ⟨l, h1, _, ⟨vs, h2, h3⟩, _⟩ := e.getO ok
    rw [h] at h1
    cases h1
    exact ⟨a, vs, rfl, SqL.of h2, h3⟩
end

section
variable {X : Cx} {e a b c : Expr} {es : List Expr} {pos : Pos} {ρ ρ' ρ1 ρ2 ρ3 : En} {x y z : PyData} {xs ys : List PyData}

/-- a new list as data -/
theorem pd_n (h : PN X e ρ (.l xs) ρ') : PD X e ρ (.list xs) ρ' := PE_imp h fun σ H Q ⟨C, F, se, q⟩ => ⟨C, F, se, fun p F' H' x se' fp h0 no ⟨vs, hp, r⟩ =>
  q (.ref p) (upd F' p (.lst vs)) H' (x.trans (.new fp)) (se'.frz fp hp h0 no) (.lst (SqL.of upd_same) (r.mono (.new fp)))⟩
theorem keys_zip {κ : Type} (f : κ → PyData) {kvs : List (κ × V)} {ds : List (κ × PyData)} (h : kvs.map (·.1) = ds.map (·.1)) : (kvs.map fun p => f p.1).zip (ds.map (·.2)) = ds.map fun p => (f p.1, p.2) := by
  have e : (kvs.map fun p => f p.1) = ds.map fun p => f p.1 := by
    have e1 : (kvs.map fun p => f p.1) = (kvs.map (·.1)).map f := by rw [List.map_map]; rfl
    have e2 : (ds.map fun p => f p.1) = (ds.map (·.1)).map f := by rw [List.map_map]; rfl
    rw [e1, e2, h]
  rw [e, List.zip_map']
theorem pe_frz {t : TE} (h : PE X e t) : PE X e (fun σ H Q => t σ H fun v H1 => ∃ d u, H1 d = some u ∧ Mut (some u) ∧ ∀ od, Q v (upd H1 d (.frz od u))) :=
  ⟨fun pins s σ H Q I q => thn (h.run pins s σ H _ I q) fun v s1 ⟨x, H1, I2, r, d, u, hd, mu, q⟩ => by
    obtain ⟨od, I3⟩ := I2.lock hd mu
    exact ⟨x, _, I3, r, q od⟩⟩
/-- a new dict as data -/
theorem pd_nd {ds : List (Key × PyData)} (h : PN X e ρ (.d ds) ρ') : PD X e ρ (.dict (ds.map fun p => (kD p.1, p.2))) ρ' := PE_imp (pe_frz h) fun σ H Q ⟨C, F, se, q⟩ => ⟨C, F, se, fun p F' H' x se' fp h0 no ⟨kvs, hp, r⟩ =>
  ⟨p, _, hp, trivial, fun od => q (.ref p) (upd F' p (.frz od (.dK kvs))) _ (x.trans (.new fp)) (se'.frzF fp h0 no) (by rw [← keys_zip kD r.1]; exact .dK upd_same (r.2.mono (.new fp)))⟩⟩
/-- an empty one is one of either kind -/
theorem lockE {pins : List (Addr × Obj)} {σ : L2.St} {H : Hp} {s : Shared} {d : Addr} (I : Inv X pins σ H s) (h : H d = some (.dT [])) : ∃ od, Inv X pins σ (upd H d (.frz od (.dK []))) s := by
  have x := I.hok d _ h
  obtain ⟨z, y, xs, r, o, es, ep, h1, h2, h3, h4, h5⟩ := x
  cases r
  have e0 : es = #[] := Array.toList_eq_nil_iff.mp h4
  subst e0
  have new : ObjOk X.prog X.w (upd H d (.frz o (.dK []))) s.heap d (.frz o (.dK [])) := ⟨h1, z, y, [], .nil, o, #[], ep, h1, h2, h3, fun e he => by simp at he, .nil, List.nodup_nil⟩
  exact ⟨o, I.write (x := d) (e := d) (t' := s.toks) (h' := s.heap) (by rw [h]; trivial) (.inl rfl) (fun b v _ q => q) ⟨o, h1⟩ new⟩
def frzOf (od : Obj) (kvs : List (List Key × V)) : HO := match kvs with | [] => .frz od (.dK []) | p :: r => .frz od (.dT (p :: r))
theorem pe_frzT {t : TE} (h : PE X e t) : PE X e (fun σ H Q => t σ H fun v H1 => ∃ d kvs, H1 d = some (.dT kvs) ∧ ∀ od, Q v (upd H1 d (frzOf od kvs))) :=
  ⟨fun pins s σ H Q I q => thn (h.run pins s σ H _ I q) fun v s1 ⟨x, H1, I2, r, d, kvs, hd, q⟩ => by
    cases kvs with
    | nil =>
      obtain ⟨od, I3⟩ := lockE I2 hd
      exact ⟨x, _, I3, r, q od⟩
    | cons p rr =>
      obtain ⟨od, I3⟩ := I2.lock hd trivial
      exact ⟨x, _, I3, r, q od⟩⟩
theorem rp_frzT {K : PySem.W.Frag} {F : Hp} {p : Addr} {od : Obj} {kvs : List (List Key × V)} {ds : List (List Key × PyData)} (r : KvA K F kvs ds) (hp : F p = some (frzOf od kvs)) : Rp K F (.ref p) (.dict (ds.map fun p => (kDs p.1, p.2))) := by
  rw [← keys_zip kDs r.1]
  cases kvs with
  | nil => exact .dK (kvs := []) hp (by have := r.2; exact this)
  | cons a b => exact .dT hp (fun z => nomatch z) r.2
theorem pd_nt {ds : List (List Key × PyData)} (h : PN X e ρ (.t ds) ρ') : PD X e ρ (.dict (ds.map fun p => (kDs p.1, p.2))) ρ' := PE_imp (pe_frzT h) fun σ H Q ⟨C, F, se, q⟩ => ⟨C, F, se, fun p F' H' x se' fp h0 no ⟨kvs, hp, r⟩ =>
  ⟨p, _, hp, fun od => q (.ref p) (upd F' p (frzOf od kvs)) _ (x.trans (.new fp)) (se'.frzF fp h0 no) (rp_frzT (r.mono (.new fp)) upd_same)⟩⟩
theorem pq_d (h : PD X e ρ (.list xs) ρ') : PQ X e ρ none xs ρ' := PE_imp h fun σ H Q ⟨C, F, se, q⟩ => ⟨C, F, se, fun v F' H' x se' r => q v F' H' x se' (by
  cases r with
  | lst h1 h2 => exact ⟨_, _, rfl, h1, h2⟩)⟩
theorem pq_n (h : PN X e ρ (.l xs) ρ') : PQ X e ρ none xs ρ' := pq_d (pd_n h)
/-- a name whose slot owns a list -/
theorem pq_o (i : Nat) {x : Str} {p : Option Addr} (hi : ρ[i]? = some (.o p (.l xs))) (hN : X.N[i]? = some x := by rfl) (hv : Vis X.env.scope x := by first | exact Or.inl rfl | exact Or.inr (Or.inl rfl) | exact Or.inr (Or.inr rfl)) (hd : (x == ("__debug__" : Str)) = false := by decide)
    (hcd : (x == ("__classdict__" : Str)) = false := by decide) : PQ X (.Name x pos) ρ (some i) xs ρ := PE_imp (pe_var hN hv hd hcd) fun σ H Q ⟨C, F, se, q⟩ => by
  obtain ⟨l, h1, _, h2, _⟩ := se.getO hi
  exact ⟨.ref l, h1, q _ F H (.refl _) se ⟨l, rfl, h1⟩⟩
/-- a name whose slot holds data -/
theorem pd_var (i : Nat) {w : Str} (hi : ρ[i]? = some (.d x)) (hN : X.N[i]? = some w := by rfl) (hv : Vis X.env.scope w := by first | exact Or.inl rfl | exact Or.inr (Or.inl rfl) | exact Or.inr (Or.inr rfl)) (hd : (w == ("__debug__" : Str)) = false := by decide)
    (hcd : (w == ("__classdict__" : Str)) = false := by decide) : PD X (.Name w pos) ρ x ρ := PE_imp (pe_var hN hv hd hcd) fun σ H Q ⟨C, F, se, q⟩ => by
  obtain ⟨v, h1, h2⟩ := se.get hi
  exact ⟨v, h1, q _ F H (.refl _) se h2⟩
theorem pd_of_c {v : V} (h : PE X e (tC v)) (r : ∀ F, Rp X.K F v x) : PD X e ρ x ρ := PE_imp h fun σ H Q ⟨C, F, se, q⟩ => q v F H (.refl _) se (r F)
theorem pd_int {i : Int} {j} : PD X (.Constant (.int i) j pos) ρ (.int i) ρ := pd_of_c pe_int fun _ => .int i
theorem pd_str {i : Str} {j} : PD X (.Constant (.str i) j pos) ρ (.str i) ρ := pd_of_c pe_str fun _ => .str i
theorem pd_bl {i : Bool} {j} : PD X (.Constant (.bool i) j pos) ρ (.bool i) ρ := pd_of_c pe_bl fun _ => .bl i
theorem pd_non {j} : PD X (.Constant .none j pos) ρ .none ρ := pd_of_c pe_non fun _ => .non
theorem pd_gint {w : Str} {i : Int} {t : Tok} (hm : X.mg w = some (.int i t)) (hg : Gl X w := by rfl) (hd : (w == ("__debug__" : Str)) = false := by decide) : PD X (.Name w pos) ρ (.int i) ρ := pd_of_c (pe_glob hg hm (v := .int i) ⟨t, rfl⟩ hd) fun _ => .int i
theorem pd_gstr {w : Str} {i : Str} {t : Tok} (hm : X.mg w = some (.str i t)) (hg : Gl X w := by rfl) (hd : (w == ("__debug__" : Str)) = false := by decide) : PD X (.Name w pos) ρ (.str i) ρ := pd_of_c (pe_glob hg hm (v := .str i) ⟨t, rfl⟩ hd) fun _ => .str i

/-! ### operators -/
/-- an operator's reading takes data to data -/
def OpD (K : PySem.W.Frag) (r : R2) (x y z : PyData) : Prop := ∀ (F H : Hp) (v w : V) (Q : VK), Ex F H → Rp K F v x → Rp K F w y → (∀ u F' H', Gr F H F' H' → Rp K F' u z → Q u H') → r v w H Q
theorem pd_op {op : Operator} {r : R2} (ho : OpR X (binaryOp op) r) (h : OpD X.K r x y z) (ha : PD X a ρ x ρ1) (hb : PD X b ρ1 y ρ2) : PD X (.BinOp a op b pos) ρ z ρ2 := PE_imp (pe_op ho ha hb) fun σ H Q ⟨C, F, e, q⟩ =>
  ⟨C, F, e, fun v F1 H1 x1 e1 r1 => ⟨C, F1, e1, fun w F2 H2 x2 e2 r2 => h F2 H2 v w Q e2.fr.ext (r1.mono x2) r2 fun u F3 H3 g r3 => q u F3 H3 (x1.trans (x2.trans g.f)) (e2.grow g) r3⟩⟩
theorem pd_cmp {op : CmpOp} {r : R2} (ho : OpR X (compareOp op) r) (h : OpD X.K r x y z) (ha : PD X a ρ x ρ1) (hb : PD X b ρ1 y ρ2) (hm : behindInMarks op b = false) : PD X (.Compare a [op] [b] pos) ρ z ρ2 := PE_imp (pe_cmpR ho ha hb hm) fun σ H Q ⟨C, F, e, q⟩ =>
  ⟨C, F, e, fun v F1 H1 x1 e1 r1 => ⟨C, F1, e1, fun w F2 H2 x2 e2 r2 => h F2 H2 v w Q e2.fr.ext (r1.mono x2) r2 fun u F3 H3 g r3 => q u F3 H3 (x1.trans (x2.trans g.f)) (e2.grow g) r3⟩⟩
theorem rp_bool {K : PySem.W.Frag} {F : Hp} {v : V} {k : Bool} (r : Rp K F v (.bool k)) : v = .bl k := by cases r; rfl
theorem rp_int {K : PySem.W.Frag} {F : Hp} {v : V} {k : Int} (r : Rp K F v (.int k)) : v = .int k := by cases r; rfl
theorem rp_str {K : PySem.W.Frag} {F : Hp} {v : V} {k : Str} (r : Rp K F v (.str k)) : v = .str k := by cases r; rfl
theorem rp_non {K : PySem.W.Frag} {F : Hp} {v : V} (r : Rp K F v .none) : v = .non := by cases r; rfl
theorem td_cmp {op : CmpOp} {r : R2} {k : Bool} (ho : OpR X (compareOp op) r) (h : OpD X.K r x y (.bool k)) (ha : PD X a ρ x ρ1) (hb : PD X b ρ1 y ρ2) (hm : behindInMarks op b = false) : TD X (.Compare a [op] [b] pos) ρ k ρ2 := PT_imp (pt_cmpR ho ha hb hm) fun σ H Q ⟨C, F, e, q⟩ =>
  ⟨C, F, e, fun v F1 H1 x1 e1 r1 => ⟨C, F1, e1, fun w F2 H2 x2 e2 r2 => h F2 H2 v w _ e2.fr.ext (r1.mono x2) r2 fun u F3 H3 g r3 => ⟨k, rp_bool r3, q F3 H3 (x1.trans (x2.trans g.f)) (e2.grow g)⟩⟩⟩
section
variable {K : PySem.W.Frag} {i j : Int} {s t : Str}
theorem opd_I0 {g : Int → Int → V} (h : ∀ F, Rp K F (g i j) z) : OpD K (rI0 g) (.int i) (.int j) z := fun F H v w Q e r1 r2 q => ⟨i, j, rp_int r1, rp_int r2, q _ F H (.refl e) (h F)⟩
theorem opd_I {P : Int → Int → Prop} {g : Int → Int → V} (hp : P i j) (h : ∀ F, Rp K F (g i j) z) : OpD K (rI P g) (.int i) (.int j) z := fun F H v w Q e r1 r2 q => ⟨i, j, rp_int r1, rp_int r2, hp, q _ F H (.refl e) (h F)⟩
end
variable {i j : Int} {s t : Str}
theorem pd_add (ha : PD X a ρ (.int i) ρ1) (hb : PD X b ρ1 (.int j) ρ2) : PD X (.BinOp a .Add b pos) ρ (.int (i + j)) ρ2 := pd_op op_add (opd_I0 fun _ => .int _) ha hb
theorem pd_sub (ha : PD X a ρ (.int i) ρ1) (hb : PD X b ρ1 (.int j) ρ2) : PD X (.BinOp a .Sub b pos) ρ (.int (i - j)) ρ2 := pd_op op_sub (opd_I0 fun _ => .int _) ha hb
theorem pd_mul (hc : CMul i j) (ha : PD X a ρ (.int i) ρ1) (hb : PD X b ρ1 (.int j) ρ2) : PD X (.BinOp a .Mult b pos) ρ (.int (i * j)) ρ2 := pd_op op_mul (opd_I hc fun _ => .int _) ha hb
theorem pd_fdiv (hc : CDiv i j) (ha : PD X a ρ (.int i) ρ1) (hb : PD X b ρ1 (.int j) ρ2) : PD X (.BinOp a .FloorDiv b pos) ρ (.int (i / j)) ρ2 := pd_op op_fdiv (opd_I hc fun _ => .int _) ha hb
theorem pd_mod (hc : 0 < j) (ha : PD X a ρ (.int i) ρ1) (hb : PD X b ρ1 (.int j) ρ2) : PD X (.BinOp a .Mod b pos) ρ (.int (i % j)) ρ2 := pd_op op_mod (opd_I hc fun _ => .int _) ha hb
theorem pd_pow (hc : CPow i j) (ha : PD X a ρ (.int i) ρ1) (hb : PD X b ρ1 (.int j) ρ2) : PD X (.BinOp a .Pow b pos) ρ (.int (i ^ j.toNat)) ρ2 := pd_op op_pow (opd_I hc fun _ => .int _) ha hb
theorem pd_addS (hc : s.length + t.length ≤ sizeLine) (ha : PD X a ρ (.str s) ρ1) (hb : PD X b ρ1 (.str t) ρ2) : PD X (.BinOp a .Add b pos) ρ (.str (s ++ t)) ρ2 :=
  pd_op op_add_str (fun F H v w Q e r1 r2 q => ⟨s, t, rp_str r1, rp_str r2, hc, q _ F H (.refl e) (.str _)⟩) ha hb
theorem td_lt (ha : PD X a ρ (.int i) ρ1) (hb : PD X b ρ1 (.int j) ρ2) : TD X (.Compare a [.Lt] [b] pos) ρ (decide (i < j)) ρ2 := td_cmp op_lt (opd_I0 fun _ => .bl _) ha hb (nomark _)
theorem td_le (ha : PD X a ρ (.int i) ρ1) (hb : PD X b ρ1 (.int j) ρ2) : TD X (.Compare a [.LtE] [b] pos) ρ (decide (i ≤ j)) ρ2 := td_cmp op_le (opd_I0 fun _ => .bl _) ha hb (nomark _)
theorem td_gt (ha : PD X a ρ (.int i) ρ1) (hb : PD X b ρ1 (.int j) ρ2) : TD X (.Compare a [.Gt] [b] pos) ρ (decide (j < i)) ρ2 := td_cmp op_gt (opd_I0 fun _ => .bl _) ha hb (nomark _)
theorem td_ge (ha : PD X a ρ (.int i) ρ1) (hb : PD X b ρ1 (.int j) ρ2) : TD X (.Compare a [.GtE] [b] pos) ρ (decide (j ≤ i)) ρ2 := td_cmp op_ge (opd_I0 fun _ => .bl _) ha hb (nomark _)
theorem pd_lt (ha : PD X a ρ (.int i) ρ1) (hb : PD X b ρ1 (.int j) ρ2) : PD X (.Compare a [.Lt] [b] pos) ρ (.bool (decide (i < j))) ρ2 := pd_cmp op_lt (opd_I0 fun _ => .bl _) ha hb (nomark _)
theorem pd_le (ha : PD X a ρ (.int i) ρ1) (hb : PD X b ρ1 (.int j) ρ2) : PD X (.Compare a [.LtE] [b] pos) ρ (.bool (decide (i ≤ j))) ρ2 := pd_cmp op_le (opd_I0 fun _ => .bl _) ha hb (nomark _)
theorem pd_gt (ha : PD X a ρ (.int i) ρ1) (hb : PD X b ρ1 (.int j) ρ2) : PD X (.Compare a [.Gt] [b] pos) ρ (.bool (decide (j < i))) ρ2 := pd_cmp op_gt (opd_I0 fun _ => .bl _) ha hb (nomark _)
theorem pd_ge (ha : PD X a ρ (.int i) ρ1) (hb : PD X b ρ1 (.int j) ρ2) : PD X (.Compare a [.GtE] [b] pos) ρ (.bool (decide (j ≤ i))) ρ2 := pd_cmp op_ge (opd_I0 fun _ => .bl _) ha hb (nomark _)

/-! ### == of data -/
/-- none, bools, ints, texts, lists, tuples of these -/
def flat (d : PyData) : Bool := SeqAt.shaped d
mutual
theorem Rp.dp {K : PySem.W.Frag} {F : Hp} : ∀ (d : PyData) {v : V}, Rp K F v d → d.canLay0 = true → Dp K F v d
  | .none, _, h, _ => by cases h; exact .non
  | .bool b, _, h, _ => by cases h; exact .bl b
  | .int b, _, h, _ => by cases h; exact .int b
  | .str b, _, h, _ => by cases h; exact .str b
  | .list ds, _, h, q => by
    cases h with
    | lst h r => exact .lst h (RpA.dp ds r (by simpa [PyData.canLay0] using q))
  | .tuple ds, _, h, q => by
    cases h with
    | tup h r => exact .tup (SqT.of h) (RpA.dp ds r (by simpa [PyData.canLay0] using q))
  | .dict _, _, _, q => by simp [PyData.canLay0] at q
theorem RpA.dp {K : PySem.W.Frag} {F : Hp} : ∀ (ds : List PyData) {v : List V}, RpA K F v ds → PyData.canLayAll0 ds = true → DpAll K F v ds
  | [], _, h, _ => by cases h; exact .nil
  | d :: ds, _, h, q => by
    have q' : d.canLay0 = true ∧ PyData.canLayAll0 ds = true := by simpa [PyData.canLayAll0] using q
    cases h with
    | cons h r => exact .cons (Rp.dp d h q'.1) (RpA.dp ds r q'.2)
end
mutual
theorem dp_mono {K : PySem.W.Frag} {F F' : Hp} (e : Ex F F') : ∀ (d : PyData) {v : V}, Dp K F v d → Dp K F' v d
  | .none, _, h => by cases h; exact .non
  | .bool b, _, h => by cases h; exact .bl b
  | .int b, _, h => by cases h; exact .int b
  | .str b, _, h => by cases h; exact .str b
  | .list ds, _, h => by
    cases h with
    | lst h r => exact .lst (e.l h) (dpa_mono e ds r)
  | .tuple ds, _, h => by
    cases h with
    | tup h r => exact .tup (e.t h) (dpa_mono e ds r)
  | .dict _, _, h => by cases h
theorem dpa_mono {K : PySem.W.Frag} {F F' : Hp} (e : Ex F F') : ∀ (ds : List PyData) {v : List V}, DpAll K F v ds → DpAll K F' v ds
  | [], _, h => by cases h; exact .nil
  | d :: ds, _, h => by
    cases h with
    | cons h r => exact .cons (dp_mono e d h) (dpa_mono e ds r)
end
theorem opd_eqD {K : PySem.W.Frag} (hx : flat x = true) (hy : flat y = true) : OpD K (rEqD K) x y (.bool (PyData.eqv x y)) := fun F H v w Q e r1 r2 q =>
  ⟨x, y, dp_mono e x (Rp.dp x r1 (SeqAt.canLay_of_shaped hx)), dp_mono e y (Rp.dp y r2 (SeqAt.canLay_of_shaped hy)), hx, hy, q _ F H (.refl e) (.bl _)⟩
theorem opd_neD {K : PySem.W.Frag} (hx : flat x = true) (hy : flat y = true) : OpD K (rNeD K) x y (.bool (!PyData.eqv x y)) := fun F H v w Q e r1 r2 q =>
  ⟨x, y, dp_mono e x (Rp.dp x r1 (SeqAt.canLay_of_shaped hx)), dp_mono e y (Rp.dp y r2 (SeqAt.canLay_of_shaped hy)), hx, hy, q _ F H (.refl e) (.bl _)⟩
theorem td_eq (hu : X.A.units + 64 < cLine) (hx : flat x = true) (hy : flat y = true) (ha : PD X a ρ x ρ1) (hb : PD X b ρ1 y ρ2) : TD X (.Compare a [.Eq] [b] pos) ρ (PyData.eqv x y) ρ2 := td_cmp (op_eqD hu) (opd_eqD hx hy) ha hb (nomark _)
theorem td_ne (hu : X.A.units + 64 < cLine) (hx : flat x = true) (hy : flat y = true) (ha : PD X a ρ x ρ1) (hb : PD X b ρ1 y ρ2) : TD X (.Compare a [.NotEq] [b] pos) ρ (!PyData.eqv x y) ρ2 := td_cmp (op_neD hu) (opd_neD hx hy) ha hb (nomark _)
theorem pd_eq (hu : X.A.units + 64 < cLine) (hx : flat x = true) (hy : flat y = true) (ha : PD X a ρ x ρ1) (hb : PD X b ρ1 y ρ2) : PD X (.Compare a [.Eq] [b] pos) ρ (.bool (PyData.eqv x y)) ρ2 := pd_cmp (op_eqD hu) (opd_eqD hx hy) ha hb (nomark _)
theorem pd_ne (hu : X.A.units + 64 < cLine) (hx : flat x = true) (hy : flat y = true) (ha : PD X a ρ x ρ1) (hb : PD X b ρ1 y ρ2) : PD X (.Compare a [.NotEq] [b] pos) ρ (.bool (!PyData.eqv x y)) ρ2 := pd_cmp (op_neD hu) (opd_neD hx hy) ha hb (nomark _)
/-- of ints, of texts -/
theorem td_eqI (ha : PD X a ρ (.int i) ρ1) (hb : PD X b ρ1 (.int j) ρ2) : TD X (.Compare a [.Eq] [b] pos) ρ (decide (i = j)) ρ2 :=
  td_cmp op_eq (fun F H v w Q e r1 r2 q => by rw [rp_int r1, rp_int r2]; exact ⟨rfl, q _ F H (.refl e) (by rw [dec_int, Bool.beq_eq_decide_eq]; exact .bl _)⟩) ha hb (nomark _)
theorem td_neI (ha : PD X a ρ (.int i) ρ1) (hb : PD X b ρ1 (.int j) ρ2) : TD X (.Compare a [.NotEq] [b] pos) ρ (!decide (i = j)) ρ2 :=
  td_cmp op_ne (fun F H v w Q e r1 r2 q => by rw [rp_int r1, rp_int r2]; exact ⟨rfl, q _ F H (.refl e) (by rw [dec_int, Bool.beq_eq_decide_eq]; exact .bl _)⟩) ha hb (nomark _)
theorem td_eqS (ha : PD X a ρ (.str s) ρ1) (hb : PD X b ρ1 (.str t) ρ2) : TD X (.Compare a [.Eq] [b] pos) ρ (decide (s = t)) ρ2 :=
  td_cmp op_eq (fun F H v w Q e r1 r2 q => by rw [rp_str r1, rp_str r2]; exact ⟨rfl, q _ F H (.refl e) (by rw [dec_str, Bool.beq_eq_decide_eq]; exact .bl _)⟩) ha hb (nomark _)
theorem td_neS (ha : PD X a ρ (.str s) ρ1) (hb : PD X b ρ1 (.str t) ρ2) : TD X (.Compare a [.NotEq] [b] pos) ρ (!decide (s = t)) ρ2 :=
  td_cmp op_ne (fun F H v w Q e r1 r2 q => by rw [rp_str r1, rp_str r2]; exact ⟨rfl, q _ F H (.refl e) (by rw [dec_str, Bool.beq_eq_decide_eq]; exact .bl _)⟩) ha hb (nomark _)
theorem pd_eqI (ha : PD X a ρ (.int i) ρ1) (hb : PD X b ρ1 (.int j) ρ2) : PD X (.Compare a [.Eq] [b] pos) ρ (.bool (decide (i = j))) ρ2 :=
  pd_cmp op_eq (fun F H v w Q e r1 r2 q => by rw [rp_int r1, rp_int r2]; exact ⟨rfl, q _ F H (.refl e) (by rw [dec_int, Bool.beq_eq_decide_eq]; exact .bl _)⟩) ha hb (nomark _)
theorem pd_neI (ha : PD X a ρ (.int i) ρ1) (hb : PD X b ρ1 (.int j) ρ2) : PD X (.Compare a [.NotEq] [b] pos) ρ (.bool (!decide (i = j))) ρ2 :=
  pd_cmp op_ne (fun F H v w Q e r1 r2 q => by rw [rp_int r1, rp_int r2]; exact ⟨rfl, q _ F H (.refl e) (by rw [dec_int, Bool.beq_eq_decide_eq]; exact .bl _)⟩) ha hb (nomark _)
theorem pd_eqS (ha : PD X a ρ (.str s) ρ1) (hb : PD X b ρ1 (.str t) ρ2) : PD X (.Compare a [.Eq] [b] pos) ρ (.bool (decide (s = t))) ρ2 :=
  pd_cmp op_eq (fun F H v w Q e r1 r2 q => by rw [rp_str r1, rp_str r2]; exact ⟨rfl, q _ F H (.refl e) (by rw [dec_str, Bool.beq_eq_decide_eq]; exact .bl _)⟩) ha hb (nomark _)
def isNone : PyData → Bool
  | .none => true
  | _ => false
theorem isNone_v {K : PySem.W.Frag} {F : Hp} {v : V} (r : Rp K F v x) : decide (v = V.non) = isNone x := by
  cases r <;> first | rfl | exact decide_eq_false (fun z => nomatch z)
theorem td_isN {k} {p' : Pos} (ha : PD X a ρ x ρ1) : TD X (.Compare a [.Is] [.Constant .none k p'] pos) ρ (isNone x) ρ1 :=
  td_cmp (op_isN) (fun F H v w Q e r1 r2 q => ⟨rp_non r2, q _ F H (.refl e) (by rw [isNone_v r1]; exact .bl _)⟩) ha pd_non (nomark _)
theorem td_notN {k} {p' : Pos} (ha : PD X a ρ x ρ1) : TD X (.Compare a [.IsNot] [.Constant .none k p'] pos) ρ (!isNone x) ρ1 :=
  td_cmp (op_notN) (fun F H v w Q e r1 r2 q => ⟨rp_non r2, q _ F H (.refl e) (by rw [isNone_v r1]; exact .bl _)⟩) ha pd_non (nomark _)
theorem pd_isN {k} {p' : Pos} (ha : PD X a ρ x ρ1) : PD X (.Compare a [.Is] [.Constant .none k p'] pos) ρ (.bool (isNone x)) ρ1 :=
  pd_cmp (op_isN) (fun F H v w Q e r1 r2 q => ⟨rp_non r2, q _ F H (.refl e) (by rw [isNone_v r1]; exact .bl _)⟩) ha pd_non (nomark _)
theorem pd_neg (ha : PD X a ρ (.int i) ρ1) : PD X (.UnaryOp .USub a pos) ρ (.int (-i)) ρ1 := PE_imp (pe_un un_neg ha) fun σ H Q ⟨C, F, e, q⟩ =>
  ⟨C, F, e, fun v F1 H1 x1 e1 r1 => ⟨i, rp_int r1, q _ F1 H1 x1 e1 (.int _)⟩⟩

/-! ### tests -/
variable {k k1 k2 : Bool} {rest : List Expr}
theorem td_val (h : PD X e ρ (.bool k) ρ') (he : ∀ whole, isTrue e X.env whole = (do let v ← whole; standAt e.pos; holding [v] (truthy v)) := by intro _; rfl) : TD X e ρ k ρ' := PT_imp (pt_val h he) fun σ H Q ⟨C, F, se, q⟩ =>
  ⟨C, F, se, fun v F1 H1 x1 e1 r1 => ⟨k, rp_bool r1, q F1 H1 x1 e1⟩⟩
/-- the truth of data -/
def truD : PyData → Bool
  | .none => false
  | .bool b => b
  | .int i => i != 0
  | .str s => s.length != 0
  | .list xs => !xs.isEmpty
  | .tuple xs => !xs.isEmpty
  | .dict kvs => !kvs.isEmpty
theorem td_not (h : TD X a ρ k ρ') : TD X (.UnaryOp .Not a pos) ρ (!k) ρ' := PT_imp (pt_not h) fun σ H Q ⟨C, F, se, q⟩ => ⟨C, F, se, fun F1 H1 x1 e1 => q F1 H1 x1 e1⟩
theorem wd_and1 (h : TD X a ρ k ρ') : WD X (.BoolOp .And [a] pos) ρ k ρ' := pw_and1 h
theorem wd_or1 (h : TD X a ρ k ρ') : WD X (.BoolOp .Or [a] pos) ρ k ρ' := pw_or1 h
theorem wd_and (ha : TD X a ρ k1 ρ1) (hb : k1 = true → WD X (.BoolOp .And (b :: rest) pos) ρ1 k2 ρ1) : WD X (.BoolOp .And (a :: b :: rest) pos) ρ (k1 && k2) ρ1 := by
  cases k1 with
  | true => exact PW_imp (pw_and ha (hb rfl)) fun σ H Q ⟨C, F, se, q⟩ => ⟨C, F, se, fun F1 H1 x1 e1 => by
      refine iteT ?_
      exact ⟨C, F1, e1, fun F2 H2 x2 e2 => q F2 H2 (x1.trans x2) e2⟩⟩
  | false =>
    have hb' : PW X (.BoolOp .And (b :: rest) pos) (fun _ _ _ => False) := ⟨fun _ _ _ _ _ _ _ h => h.elim⟩
    exact PW_imp (pw_and ha hb') fun σ H Q ⟨C, F, se, q⟩ => ⟨C, F, se, fun F1 H1 x1 e1 => by
      refine iteF ?_
      exact q F1 H1 x1 e1⟩
/-- the second changes the slots -/
theorem wd_and_t (ha : TD X a ρ true ρ1) (hb : WD X (.BoolOp .And (b :: rest) pos) ρ1 k2 ρ2) : WD X (.BoolOp .And (a :: b :: rest) pos) ρ k2 ρ2 := PW_imp (pw_and ha hb) fun σ H Q ⟨C, F, se, q⟩ => ⟨C, F, se, fun F1 H1 x1 e1 => by
  refine iteT ?_
  exact ⟨C, F1, e1, fun F2 H2 x2 e2 => q F2 H2 (x1.trans x2) e2⟩⟩
theorem wd_and_f (ha : TD X a ρ false ρ1) : WD X (.BoolOp .And (a :: b :: rest) pos) ρ false ρ1 := by
  have hb' : PW X (.BoolOp .And (b :: rest) pos) (fun _ _ _ => False) := ⟨fun _ _ _ _ _ _ _ h => h.elim⟩
  exact PW_imp (pw_and ha hb') fun σ H Q ⟨C, F, se, q⟩ => ⟨C, F, se, fun F1 H1 x1 e1 => by
    refine iteF ?_
    exact q F1 H1 x1 e1⟩
theorem wd_or_t (ha : TD X a ρ true ρ1) : WD X (.BoolOp .Or (a :: b :: rest) pos) ρ true ρ1 := by
  have hb' : PW X (.BoolOp .Or (b :: rest) pos) (fun _ _ _ => False) := ⟨fun _ _ _ _ _ _ _ h => h.elim⟩
  exact PW_imp (pw_or ha hb') fun σ H Q ⟨C, F, se, q⟩ => ⟨C, F, se, fun F1 H1 x1 e1 => by
    refine iteT ?_
    exact q F1 H1 x1 e1⟩
theorem wd_or_f (ha : TD X a ρ false ρ1) (hb : WD X (.BoolOp .Or (b :: rest) pos) ρ1 k2 ρ2) : WD X (.BoolOp .Or (a :: b :: rest) pos) ρ k2 ρ2 := PW_imp (pw_or ha hb) fun σ H Q ⟨C, F, se, q⟩ => ⟨C, F, se, fun F1 H1 x1 e1 => by
  refine iteF ?_
  exact ⟨C, F1, e1, fun F2 H2 x2 e2 => q F2 H2 (x1.trans x2) e2⟩⟩
theorem wd_or (ha : TD X a ρ k1 ρ1) (hb : k1 = false → WD X (.BoolOp .Or (b :: rest) pos) ρ1 k2 ρ1) : WD X (.BoolOp .Or (a :: b :: rest) pos) ρ (k1 || k2) ρ1 := by
  cases k1 with
  | true => exact wd_or_t ha
  | false => exact wd_or_f ha (hb rfl)
theorem td_w (h : WD X e ρ k ρ') : TD X e ρ k ρ' := h.pt
/-- and, or, not as values -/
theorem pd_not (h : PD X a ρ (.bool k) ρ') : PD X (.UnaryOp .Not a pos) ρ (.bool (!k)) ρ' := PE_imp (pe_not h) fun σ H Q ⟨C, F, se, q⟩ => ⟨C, F, se, fun v F1 H1 x1 e1 r1 => ⟨k, rp_bool r1, q _ F1 H1 x1 e1 (.bl _)⟩⟩
theorem pd_one {op} (h : PD X a ρ x ρ') : PD X (.BoolOp op [a] pos) ρ x ρ' := pe_one h
theorem pd_and_t (ha : PD X a ρ (.bool true) ρ1) (hb : PD X (.BoolOp .And (b :: rest) pos) ρ1 x ρ2) : PD X (.BoolOp .And (a :: b :: rest) pos) ρ x ρ2 := PE_imp (pe_and ha hb) fun σ H Q ⟨C, F, se, q⟩ => ⟨C, F, se, fun v F1 H1 x1 e1 r1 => ⟨true, rp_bool r1, by
  refine iteT ?_
  exact ⟨C, F1, e1, fun w F2 H2 x2 e2 r2 => q w F2 H2 (x1.trans x2) e2 r2⟩⟩⟩
theorem pd_and_f (ha : PD X a ρ (.bool false) ρ1) : PD X (.BoolOp .And (a :: b :: rest) pos) ρ (.bool false) ρ1 := by
  have hb' : PE X (.BoolOp .And (b :: rest) pos) (fun _ _ _ => False) := ⟨fun _ _ _ _ _ _ h => h.elim⟩
  exact PE_imp (pe_and ha hb') fun σ H Q ⟨C, F, se, q⟩ => ⟨C, F, se, fun v F1 H1 x1 e1 r1 => ⟨false, rp_bool r1, by
    refine iteF ?_
    exact q _ F1 H1 x1 e1 (.bl _)⟩⟩
theorem pd_and (ha : PD X a ρ (.bool k1) ρ1) (hb : k1 = true → PD X (.BoolOp .And (b :: rest) pos) ρ1 (.bool k2) ρ1) : PD X (.BoolOp .And (a :: b :: rest) pos) ρ (.bool (k1 && k2)) ρ1 := by
  cases k1 with
  | true => exact pd_and_t ha (hb rfl)
  | false => exact pd_and_f ha
theorem pd_or_f (ha : PD X a ρ (.bool false) ρ1) (hb : PD X (.BoolOp .Or (b :: rest) pos) ρ1 x ρ2) : PD X (.BoolOp .Or (a :: b :: rest) pos) ρ x ρ2 := PE_imp (pe_or ha hb) fun σ H Q ⟨C, F, se, q⟩ => ⟨C, F, se, fun v F1 H1 x1 e1 r1 => ⟨false, rp_bool r1, by
  refine iteF ?_
  exact ⟨C, F1, e1, fun w F2 H2 x2 e2 r2 => q w F2 H2 (x1.trans x2) e2 r2⟩⟩⟩
theorem pd_or_t (ha : PD X a ρ (.bool true) ρ1) : PD X (.BoolOp .Or (a :: b :: rest) pos) ρ (.bool true) ρ1 := by
  have hb' : PE X (.BoolOp .Or (b :: rest) pos) (fun _ _ _ => False) := ⟨fun _ _ _ _ _ _ h => h.elim⟩
  exact PE_imp (pe_or ha hb') fun σ H Q ⟨C, F, se, q⟩ => ⟨C, F, se, fun v F1 H1 x1 e1 r1 => ⟨true, rp_bool r1, by
    refine iteT ?_
    exact q _ F1 H1 x1 e1 (.bl _)⟩⟩
theorem pd_or (ha : PD X a ρ (.bool k1) ρ1) (hb : k1 = false → PD X (.BoolOp .Or (b :: rest) pos) ρ1 (.bool k2) ρ1) : PD X (.BoolOp .Or (a :: b :: rest) pos) ρ (.bool (k1 || k2)) ρ1 := by
  cases k1 with
  | true => exact pd_or_t ha
  | false => exact pd_or_f ha (hb rfl)
theorem pd_if (hc : TD X c ρ k ρ1) (ha : k = true → PD X a ρ1 x ρ2) (hb : k = false → PD X b ρ1 y ρ2) : PD X (.IfExp c a b pos) ρ (if k = true then x else y) ρ2 := by
  cases k with
  | true =>
    have hb' : PE X b (fun _ _ _ => False) := ⟨fun _ _ _ _ _ _ h => h.elim⟩
    exact PE_imp (pe_ifExp hc (ha rfl) hb') fun σ H Q ⟨C, F, se, q⟩ => ⟨C, F, se, fun F1 H1 x1 e1 => by
      refine iteT ?_
      exact ⟨C, F1, e1, fun w F2 H2 x2 e2 r2 => q w F2 H2 (x1.trans x2) e2 (by rw [if_pos rfl]; exact r2)⟩⟩
  | false =>
    have ha' : PE X a (fun _ _ _ => False) := ⟨fun _ _ _ _ _ _ h => h.elim⟩
    exact PE_imp (pe_ifExp hc ha' (hb rfl)) fun σ H Q ⟨C, F, se, q⟩ => ⟨C, F, se, fun F1 H1 x1 e1 => by
      refine iteF ?_
      exact ⟨C, F1, e1, fun w F2 H2 x2 e2 r2 => q w F2 H2 (x1.trans x2) e2 (by rw [if_neg Bool.false_ne_true]; exact r2)⟩⟩
theorem pd_if_t (hc : TD X c ρ true ρ1) (ha : PD X a ρ1 x ρ2) : PD X (.IfExp c a b pos) ρ x ρ2 := by
  have h := pd_if (x := x) (y := x) (b := b) (pos := pos) hc (fun _ => ha) (fun z => nomatch z)
  rw [if_pos rfl] at h; exact h
theorem pd_if_f (hc : TD X c ρ false ρ1) (hb : PD X b ρ1 x ρ2) : PD X (.IfExp c a b pos) ρ x ρ2 := by
  have h := pd_if (x := x) (y := x) (a := a) (pos := pos) hc (fun z => nomatch z) (fun _ => hb)
  rw [if_neg Bool.false_ne_true] at h; exact h

/-! ### displays -/
theorem ad_nil : AD X [] ρ [] ρ := PA_imp pa_nil fun σ H Q ⟨C, F, se, q⟩ => q [] F H (.refl _) se .nil
theorem ad_cons (h : PD X e ρ x ρ1) (hr : AD X es ρ1 xs ρ2) (hs : starEach (e :: es) X.env = (false, eval e X.env) :: starEach es X.env := by rfl) : AD X (e :: es) ρ (x :: xs) ρ2 := PA_imp (pa_cons h hr hs) fun σ H Q ⟨C, F, se, q⟩ =>
  ⟨C, F, se, fun v F1 H1 x1 e1 r1 => ⟨C, F1, e1, fun vs F2 H2 x2 e2 r2 => q (v :: vs) F2 H2 (x1.trans x2) e2 (.cons (r1.mono x2) r2)⟩⟩
theorem line_of {n : Nat} (h : n ≤ 100000) : n ≤ sizeLine := Nat.le_trans h (by decide)
theorem line_lt {n : Nat} (h : n < 100000) : n < sizeLine := Nat.lt_of_lt_of_le h (by decide)
theorem pd_tup {x1} (h : AD X es ρ xs ρ') (hl : xs.length ≤ 100000 := by exact Nat.le_of_ble_eq_true rfl) : PD X (.Tuple es x1 pos) ρ (.tuple xs) ρ' := PE_imp (pe_tup h) fun σ H Q ⟨C, F, se, q⟩ =>
  ⟨C, F, se, fun vs F1 H1 x1 e1 r1 => ⟨by rw [r1.length]; exact line_of hl, fun p hp => q (.ref p) _ _ (x1.trans (.new (e1.fr.ext.none hp))) (e1.grow (.push e1.fr.ext hp)) (.tup upd_same (r1.mono (.new (e1.fr.ext.none hp))))⟩⟩
/-- a new object is laid -/
theorem SE.lay {K : PySem.W.Frag} {C : Cn} {F H : Hp} {σ : L2.St} {ρ : En} (e : SE K C F H σ ρ) {p : Addr} {o : HO} (hp : H p = none) : SE K C F (upd H p o) σ ρ ∧ F p = none ∧ C.H0 p = none ∧ (∀ j, ¬ Owns σ ρ j p) :=
  ⟨e.grow (.side e.fr.ext hp), e.fr.ext.none hp, e.fr.there p hp, not_owns_new e hp⟩
theorem pn_lst (h : AD X es ρ xs ρ') (hl : xs.length ≤ 100000 := by exact Nat.le_of_ble_eq_true rfl) : PN X (.List es pos) ρ (.l xs) ρ' := PE_imp (pe_lst h) fun σ H Q ⟨C, F, se, q⟩ =>
  ⟨C, F, se, fun vs F1 H1 x1 e1 r1 => ⟨by rw [r1.length]; exact line_of hl, fun p hp => by
    obtain ⟨a, b, c, d⟩ := e1.lay (o := .lst vs) hp
    exact q p F1 _ x1 a b c d ⟨vs, upd_same, r1⟩⟩⟩
theorem pn_dict : PN X (.Dict [] [] pos) ρ (.d []) ρ := PE_imp pe_dnewK fun σ H Q ⟨C, F, se, q⟩ p hp => by
  obtain ⟨a, b, c, d⟩ := se.lay (o := .dK []) hp
  exact q p F _ (.refl _) a b c d ⟨[], upd_same, rfl, .nil⟩
theorem pn_dictT : PN X (.Dict [] [] pos) ρ (.t []) ρ := PE_imp pe_dnewT fun σ H Q ⟨C, F, se, q⟩ p hp => by
  obtain ⟨a, b, c, d⟩ := se.lay (o := .dT []) hp
  exact q p F _ (.refl _) a b c d ⟨[], upd_same, rfl, .nil⟩

/-! ### subscripts -/
theorem atI_rp {K : PySem.W.Frag} {F : Hp} {vs : List V} (r : RpA K F vs xs) (h : atI xs i = some x) : ∃ v, atI vs i = some v ∧ Rp K F v x := by
  unfold atI at h ⊢
  rw [r.length]
  cases q : ixN xs.length i with
  | none => rw [q] at h; cases h
  | some n => rw [q] at h; exact r.get (by simpa using h)
theorem pd_ixL {src : Option Nat} (h : atI xs i = some x) (ok : SrcOk ρ2 src xs) (ha : PQ X a ρ src xs ρ1) (hb : PD X b ρ1 (.int i) ρ2) (hs : PlainIx b := by intro _ _; rfl) : PD X (.Subscript a b pos) ρ x ρ2 := PE_imp (pe_ix ix_list ha hb hs) fun σ H Q ⟨C, F, se, q⟩ =>
  ⟨C, F, se, fun v F1 H1 x1 e1 s1 => ⟨C, F1, e1, fun w F2 H2 x2 e2 r2 => by
    obtain ⟨p, vs, rfl, l, r⟩ := (s1.mono x2).look e2 ok
    obtain ⟨u, h1, h2⟩ := atI_rp r h
    exact ⟨p, vs, i, u, rfl, rp_int r2, l, h1, q u F2 H2 (x1.trans x2) e2 h2⟩⟩⟩
theorem pd_ixT (h : atI xs i = some x) (ha : PD X a ρ (.tuple xs) ρ1) (hb : PD X b ρ1 (.int i) ρ2) (hs : PlainIx b := by intro _ _; rfl) : PD X (.Subscript a b pos) ρ x ρ2 := PE_imp (pe_ix ix_tup ha hb hs) fun σ H Q ⟨C, F, se, q⟩ =>
  ⟨C, F, se, fun v F1 H1 x1 e1 r1 => ⟨C, F1, e1, fun w F2 H2 x2 e2 r2 => by
    cases r1 with
    | tup h1 h2 =>
      obtain ⟨u, h3, h4⟩ := atI_rp h2 h
      exact ⟨_, _, i, u, rfl, rp_int r2, SqT.of (e2.fr.ext _ _ (x2 _ _ h1)), h3, q u F2 H2 (x1.trans x2) e2 (h4.mono x2)⟩⟩⟩
theorem pd_ixS {c : Nat} (hl : s.length ≤ 100000) (h : atI s.cps.toList i = some c) (ha : PD X a ρ (.str s) ρ1) (hb : PD X b ρ1 (.int i) ρ2) (hs : PlainIx b := by intro _ _; rfl) : PD X (.Subscript a b pos) ρ (.str ⟨#[c]⟩) ρ2 := PE_imp (pe_ix ix_str ha hb hs) fun σ H Q ⟨C, F, se, q⟩ =>
  ⟨C, F, se, fun v F1 H1 x1 e1 r1 => ⟨C, F1, e1, fun w F2 H2 x2 e2 r2 => ⟨s, i, c, rp_str r1, rp_int r2, line_of hl, h, q _ F2 H2 (x1.trans x2) e2 (.str _)⟩⟩⟩
end
end G

/-! GStmt: statements, blocks, loops, defs in words of data. -/
namespace G
open PySem PySem.Spec PyProof.Rows L2

/-- an exception's own dict -/
def ExRep (K : PySem.W.Frag) (F H : Hp) (d : Option Addr) (fs : List (Str × PyData)) : Prop :=
  match d with
  | none => fs = []
  | some dd => fs ≠ [] ∧ ∃ vs, H dd = some (.xd vs) ∧ KvA K F vs fs
/-- what is wanted behind a statement -/
structure DE where
  nx : En → Prop := fun _ => False
  rt : PyData → En → Prop := fun _ _ => False
  ex : Value → List (Str × PyData) → En → Prop := fun _ _ _ => False
  bk : En → Prop := fun _ => False
  ct : En → Prop := fun _ => False
  rn : Ct → En → Prop := fun _ _ => False
  rq : Ct → Ct → En → Prop := fun _ _ _ => False
structure Cov (K : PySem.W.Frag) (W : WX) (C : Cn) (D : DE) (E : Ends) : Prop where
  nx : ∀ ρ' F' H' σ', D.nx ρ' → SE K C F' H' σ' ρ' → E.nx σ' H'
  rt : ∀ x ρ' v F' H' σ', D.rt x ρ' → SE K C F' H' σ' ρ' → Rp K F' v x → E.rt v H'
  ex : ∀ c fs ρ' d F' H' σ', D.ex c fs ρ' → SE K C F' H' σ' ρ' → ExRep K F' H' d fs → W c d σ' H'
  bk : ∀ ρ' F' H' σ', D.bk ρ' → SE K C F' H' σ' ρ' → E.bk σ' H'
  ct : ∀ ρ' F' H' σ', D.ct ρ' → SE K C F' H' σ' ρ' → E.ct σ' H'
  rn : ∀ c ρ' p F' H' σ', D.rn c ρ' → SE K C F' H' σ' ρ' → F' p = none → C.H0 p = none → Own1 K F' H' p c → E.rt (.ref p) H'
  rq : ∀ c c2 ρ' t p q F' H' σ', D.rq c c2 ρ' → SE K C F' H' σ' ρ' → H' t = some (.tup [.ref p, .ref q]) → F' p = none → F' q = none → C.H0 p = none → C.H0 q = none → p ≠ q → Own1 K F' H' p c → Own1 K F' H' q c2 → E.rt (.ref t) H'
def tD (K : PySem.W.Frag) (W : WX) (ρ : En) (D : DE) : TS := fun E σ H => ∃ C F, SE K C F H σ ρ ∧ Cov K W C D E
abbrev SD (X : Cx) (W : WX) (st : Stmt) (ρ : En) (D : DE) : Prop := PS X st (tD X.K W ρ D)
abbrev BD (X : Cx) (W : WX) (sts : List Stmt) (ρ : En) (D : DE) : Prop := PSs X sts (tD X.K W ρ D)

section
variable {X : Cx} {W : WX} {e a b c : Expr} {es : List Expr} {pos pos' : Pos} {ρ ρ' ρ1 ρ2 ρ3 : En} {x y z : PyData} {xs ys : List PyData} {st : Stmt} {rest A B body : List Stmt} {D : DE} {k : Bool} {i j : Nat} {w : Str}

/-! ### blocks -/
theorem bd_nil (h : D.nx ρ) : BD X W [] ρ D := PSs_imp pss_nil fun E σ H ⟨C, F, se, cv⟩ => cv.nx ρ F H σ h se
theorem bd_cut (M : En → Prop) (h1 : SD X W st ρ { D with nx := M }) (h2 : ∀ ρ1, M ρ1 → BD X W rest ρ1 D) : BD X W (st :: rest) ρ D := by
  have h2' : PSs X rest (fun E σ H => ∃ p : { ρ1 // M ρ1 }, tD X.K W p.1 D E σ H) := PSs_ex fun p => h2 p.1 p.2
  exact PSs_imp (pss_cons h1 h2') fun E σ H ⟨C, F, se, cv⟩ => ⟨C, F, se, ⟨fun ρ' F' H' σ' m s => ⟨⟨ρ', m⟩, C, F', s, cv⟩, cv.rt, cv.ex, cv.bk, cv.ct, cv.rn, cv.rq⟩⟩
theorem bd_seq (h1 : SD X W st ρ { D with nx := fun r => r = ρ1 }) (h2 : BD X W rest ρ1 D) : BD X W (st :: rest) ρ D := bd_cut (fun r => r = ρ1) h1 fun _ q => by subst q; exact h2
theorem bd_one (h1 : SD X W st ρ D) : BD X W [st] ρ D := pss_one h1
/-- less is known ahead, more is wanted behind -/
theorem tD_le {K : PySem.W.Frag} {E : Ends} {σ : L2.St} {H : Hp} (h : Le ρ' ρ) (t : tD K W ρ D E σ H) : tD K W ρ' D E σ H := by
  obtain ⟨C, F, se, cv⟩ := t
  exact ⟨C, F, se.le h, cv⟩
theorem bd_le (h : Le ρ' ρ) (b : BD X W rest ρ' D) : BD X W rest ρ D := PSs_imp b fun E σ H t => tD_le h t
theorem sd_le (h : Le ρ' ρ) (b : SD X W st ρ' D) : SD X W st ρ D := PS_imp b fun E σ H t => tD_le h t
structure DE.Le (D D' : DE) : Prop where
  nx : ∀ ρ, D.nx ρ → D'.nx ρ := by intro _ h; exact h
  rt : ∀ x ρ, D.rt x ρ → D'.rt x ρ := by intro _ _ h; exact h
  ex : ∀ c f ρ, D.ex c f ρ → D'.ex c f ρ := by intro _ _ _ h; exact h
  bk : ∀ ρ, D.bk ρ → D'.bk ρ := by intro _ h; exact h
  ct : ∀ ρ, D.ct ρ → D'.ct ρ := by intro _ h; exact h
  rn : ∀ c ρ, D.rn c ρ → D'.rn c ρ := by intro _ _ h; exact h
  rq : ∀ c c2 ρ, D.rq c c2 ρ → D'.rq c c2 ρ := by intro _ _ _ h; exact h
theorem Cov.le {K : PySem.W.Frag} {C : Cn} {E : Ends} {D D' : DE} (l : D.Le D') (h : Cov K W C D' E) : Cov K W C D E :=
  ⟨fun r _ _ _ q => h.nx r _ _ _ (l.nx r q), fun x r _ _ _ _ q => h.rt x r _ _ _ _ (l.rt x r q), fun c f r _ _ _ _ q => h.ex c f r _ _ _ _ (l.ex c f r q), fun r _ _ _ q => h.bk r _ _ _ (l.bk r q), fun r _ _ _ q => h.ct r _ _ _ (l.ct r q), fun c r p _ _ _ q => h.rn c r p _ _ _ (l.rn c r q), fun c c2 r t p q _ _ _ d => h.rq c c2 r t p q _ _ _ (l.rq c c2 r d)⟩
theorem sd_post {D' : DE} (l : D.Le D') (h : SD X W st ρ D) : SD X W st ρ D' := PS_imp h fun E σ H ⟨C, F, se, cv⟩ => ⟨C, F, se, cv.le l⟩
theorem bd_post {D' : DE} (l : D.Le D') (h : BD X W rest ρ D) : BD X W rest ρ D' := PSs_imp h fun E σ H ⟨C, F, se, cv⟩ => ⟨C, F, se, cv.le l⟩

/-! ### small statements -/
theorem sd_pass (h : D.nx ρ) : SD X W (.Pass pos) ρ D := PS_imp ps_pass fun E σ H ⟨C, F, se, cv⟩ => cv.nx ρ F H σ h se
theorem sd_break (h : D.bk ρ) : SD X W (.Break pos) ρ D := PS_imp ps_break fun E σ H ⟨C, F, se, cv⟩ => cv.bk ρ F H σ h se
theorem sd_cont (h : D.ct ρ) : SD X W (.Continue pos) ρ D := PS_imp ps_continue fun E σ H ⟨C, F, se, cv⟩ => cv.ct ρ F H σ h se
theorem sd_ret (he : PD X e ρ x ρ1) (h : D.rt x ρ1) : SD X W (.Return (some e) pos) ρ D := PS_imp (ps_ret he) fun E σ H ⟨C, F, se, cv⟩ => ⟨C, F, se, fun v F1 H1 _ e1 r1 => cv.rt x ρ1 v F1 H1 σ h e1 r1⟩
/-- a new object is given back -/
theorem sd_retO {c : Ct} (he : PN X e ρ c ρ1) (h : D.rn c ρ1) : SD X W (.Return (some e) pos) ρ D := PS_imp (ps_ret he) fun E σ H ⟨C, F, se, cv⟩ => ⟨C, F, se, fun p F1 H1 _ e1 fp h0 _ r1 => cv.rn c ρ1 p F1 H1 σ h e1 fp h0 r1⟩
/-- .. that a name holds -/
theorem sd_retV {c : Ct} (i : Nat) (h0 : ρ[i]? = some (.o none c)) (h : D.rn c ρ) (hN : X.N[i]? = some w := by rfl) (hv : Vis X.env.scope w := by first | exact Or.inl rfl | exact Or.inr (Or.inl rfl) | exact Or.inr (Or.inr rfl)) (hd : (w == ("__debug__" : Str)) = false := by decide) (hcd : (w == ("__classdict__" : Str)) = false := by decide) : SD X W (.Return (some (.Name w pos')) pos) ρ D :=
  PS_imp (ps_ret (pe_var hN hv hd hcd)) fun E σ H ⟨C, F, se, cv⟩ => by
    obtain ⟨l, a1, _, a3, a4⟩ := se.getO h0
    exact ⟨.ref l, a1, cv.rn c ρ l F H σ h se (se.own i l a4).1 (se.fresh i l c h0 a1) a3⟩
/-- a list that a name owns becomes data, as it is read -/
theorem pd_thaw {xs : List PyData} (i : Nat) (h0 : ρ[i]? = some (.ol xs)) (hN : X.N[i]? = some w := by rfl) (hv : Vis X.env.scope w := by first | exact Or.inl rfl | exact Or.inr (Or.inl rfl) | exact Or.inr (Or.inr rfl)) (hd : (w == ("__debug__" : Str)) = false := by decide) (hcd : (w == ("__classdict__" : Str)) = false := by decide) : PD X (.Name w pos) ρ (.list xs) (ρ.set i (.d (.list xs))) :=
  PE_imp (pe_var hN hv hd hcd) fun σ H Q ⟨C, F, se, q⟩ => by
    obtain ⟨l, a1, _, ⟨vs, a3, a5⟩, a4⟩ := se.getO h0
    have fl := (se.own i l a4).1
    have r : Rp X.K (L2.upd F l (.lst vs)) (.ref l) (.list xs) := .lst (SqL.of upd_same) (a5.mono (.new fl))
    exact ⟨.ref l, a1, q _ _ H (.new fl) (se.thaw h0 a1 a3 r) r⟩
/-- .. ahead of a statement -/
theorem bd_thaw {xs : List PyData} (i : Nat) (h0 : ρ[i]? = some (.ol xs)) (h : BD X W rest (ρ.set i (.d (.list xs))) D) : BD X W rest ρ D := PSs_imp h fun E σ H ⟨C, F, se, cv⟩ => by
    obtain ⟨l, a1, _, ⟨vs, a3, a5⟩, a4⟩ := se.getO h0
    have fl := (se.own i l a4).1
    have r : Rp X.K (L2.upd F l (.lst vs)) (.ref l) (.list xs) := .lst (SqL.of upd_same) (a5.mono (.new fl))
    exact ⟨C, _, se.thaw h0 a1 a3 r, cv⟩
theorem sd_retN (h : D.rt .none ρ) : SD X W (.Return none pos) ρ D := PS_imp ps_retN fun E σ H ⟨C, F, se, cv⟩ => cv.rt _ ρ _ F H σ h se .non
theorem sd_expr (he : PD X e ρ x ρ1) (h : D.nx ρ1) (hs : swapsWith e none pos.line X.env = pure false := by rfl) : SD X W (.Expr e pos) ρ D := PS_imp (ps_expr he hs) fun E σ H ⟨C, F, se, cv⟩ => ⟨C, F, se, fun v F1 H1 _ e1 r1 => cv.nx ρ1 F1 H1 σ h e1⟩
theorem sd_if (hc : TD X c ρ k ρ1) (ha : k = true → BD X W A ρ1 D) (hb : k = false → BD X W B ρ1 D) : SD X W (.If c A B pos) ρ D := by
  have nv : ∀ sts, PSs X sts (fun _ _ _ => False) := fun sts => ⟨fun _ _ _ _ _ _ h => h.elim⟩
  cases k with
  | true => exact PS_imp (ps_if hc (ha rfl) (nv B)) fun E σ H ⟨C, F, se, cv⟩ => ⟨C, F, se, fun F1 H1 x1 e1 => iteT ⟨C, F1, e1, cv⟩⟩
  | false => exact PS_imp (ps_if hc (nv A) (hb rfl)) fun E σ H ⟨C, F, se, cv⟩ => ⟨C, F, se, fun F1 H1 x1 e1 => iteF ⟨C, F1, e1, cv⟩⟩
/-- a guard: it ends -/
theorem bd_guard (hc : TD X c ρ k ρ1) (ha : k = true → BD X W A ρ1 { D with nx := fun _ => False }) (hb : k = false → BD X W rest ρ1 D) : BD X W (.If c A [] pos :: rest) ρ D :=
  bd_cut (fun r => r = ρ1 ∧ k = false) (sd_if hc (fun q => bd_post (D := { D with nx := fun _ => False }) { nx := fun _ z => False.elim z } (ha q)) fun q => bd_nil ⟨rfl, q⟩) fun _ q => by
    obtain ⟨rfl, q⟩ := q
    exact hb q
/-- x = e, e data -/
theorem sd_set (i : Nat) (he : PD X e ρ x ρ1) (h : D.nx (ρ1.set i (.d x))) (hN : X.N.Nodup) (hi : X.N[i]? = some w := by rfl) (hx : Loc X.env.scope w := by first | exact Or.inl rfl | exact Or.inr rfl)
    (hf : X.fn w = true ∨ X.env.scope.names.lookup w = some .local := by first | exact .inl rfl | exact .inr rfl) (hs : swapsWith e (some (.Name w pos')) pos.line X.env = pure false := by rfl) : SD X W (.Assign [.Name w pos'] e pos) ρ D :=
  PS_imp (ps_set hN hi hx he hs hf) fun E σ H ⟨C, F, se, cv⟩ => ⟨C, F, se, fun v F1 H1 _ e1 r1 => cv.nx _ F1 H1 _ h (e1.setD r1)⟩
/-- x = e, e a new object that the body goes on changing -/
theorem sd_setN (i : Nat) {s : Ct} (he : PN X e ρ s ρ1) (h : D.nx (ρ1.set i (.o none s))) (hN : X.N.Nodup) (hi : X.N[i]? = some w := by rfl) (hx : Loc X.env.scope w := by first | exact Or.inl rfl | exact Or.inr rfl)
    (hf : X.fn w = true ∨ X.env.scope.names.lookup w = some .local := by first | exact .inl rfl | exact .inr rfl) (hs : swapsWith e (some (.Name w pos')) pos.line X.env = pure false := by rfl) : SD X W (.Assign [.Name w pos'] e pos) ρ D :=
  PS_imp (ps_set hN hi hx he hs hf) fun E σ H ⟨C, F, se, cv⟩ => ⟨C, F, se, fun p F1 H1 _ e1 fp h0 no r1 => cv.nx _ F1 H1 _ h (e1.setOwn fp h0 no r1)⟩
/-- found.append(e) -/
theorem sd_append (i : Nat) {o : Str} {p1 p2 p3 : Pos} {pa pb : Option Addr} (h0 : ρ[i]? = some (.o pa (.l ys))) (he : PD X e ρ x ρ1) (h1 : ρ1[i]? = some (.o pb (.l xs))) (hl : xs.length < 100000) (h : D.nx (ρ1.set i (.o pb (.l (xs ++ [x])))))
    (hN : X.N[i]? = some o := by rfl) (hv : Vis X.env.scope o := by first | exact Or.inl rfl | exact Or.inr (Or.inl rfl) | exact Or.inr (Or.inr rfl)) (hd : (o == ("__debug__" : Str)) = false := by decide) (hcd : (o == ("__classdict__" : Str)) = false := by decide)
    (hbase : attributeBase (.Name o p1) "append" X.env (eval (.Name o p1) X.env) = eval (.Name o p1) X.env := by rfl)
    (hfew : ((backTo p3 (starEach [e] X.env)).all (fun x => !x.1) && (backToKw p3 (keywordEach [] X.env)).all (fun x => x.1.isSome)
      && decide ([e].length + ([] : List Keyword).length + (if ([] : List Keyword).isEmpty then 0 else 1) < 30)) = true := by rfl)
    (hline : (p2.endLine == p3.line) = true := by rfl) (hs : starEach [e] X.env = (false, eval e X.env) :: starEach [] X.env := by rfl)
    (hsw : swapsWith (.Call (.Attribute (.Name o p1) "append" p2) [e] [] p3) none pos.line X.env = pure false := by rfl) :
    SD X W (.Expr (.Call (.Attribute (.Name o p1) "append" p2) [e] [] p3) pos) ρ D := by
  refine PS_imp (ps_expr (pe_bm PySem.F.plainAttrs_list PySem.F.slot_list_append PySem.F.type_list_append mt_append (pe_var hN hv hd hcd) (pa_cons he pa_nil hs) hbase hfew hline hs (by rfl)) hsw) fun E σ H ⟨C, F, se, cv⟩ => ?_
  obtain ⟨l, a1, _, ⟨vs, a2, a3⟩, a4⟩ := se.getO h0
  refine ⟨.ref l, a1, .inl ⟨rfl, vs, SqL.of a2⟩, C, F, se, fun v F1 H1 x1 e1 r1 => ?_⟩
  obtain ⟨l', b1, _, ⟨us, b2, b3⟩, b4⟩ := e1.getO h1
  rw [a1] at b1
  cases b1
  refine ⟨l, us, v, rfl, rfl, b2, by rw [b3.length]; exact line_lt hl, cv.nx _ F1 _ _ h ?_⟩
  exact e1.wr h1 a1 ⟨us ++ [v], upd_same, b3.append (.cons r1 .nil)⟩
/-- xs[j] = e, xs a name that owns its list -/
theorem sd_setix (i : Nat) {o : Str} {p1 p2 : Pos} {pa pb : Option Addr} {ix : Int} {n : Nat} (he : PD X e ρ x ρ1) (h0 : ρ1[i]? = some (.o pa (.l ys))) (hix : PD X a ρ1 (.int ix) ρ2) (h1 : ρ2[i]? = some (.o pb (.l xs))) (hn : ixN xs.length ix = some n) (h : D.nx (ρ2.set i (.o pb (.l (xs.set n x)))))
    (hN : X.N[i]? = some o := by rfl) (hv : Vis X.env.scope o := by first | exact Or.inl rfl | exact Or.inr (Or.inl rfl) | exact Or.inr (Or.inr rfl)) (hd : (o == ("__debug__" : Str)) = false := by decide) (hcd : (o == ("__classdict__" : Str)) = false := by decide)
    (hg : ∀ v, assign (.Subscript (.Name o p1) a p2) X.env v = (do
      let ov ← holding [v] (eval (.Name o p1) X.env)
      let iv ← holding [v, ov] (eval a X.env)
      standAt p2
      holding [v, ov, iv] (setItem ov iv v)
      release [v, ov, iv] []) := by intro _; rfl)
    (hs : swapsWithSole [.Subscript (.Name o p1) a p2] e pos.line X.env = pure false := by rfl) (hw : swappedStores [.Subscript (.Name o p1) a p2] e X.env = pure none := by rfl)
    (hm : (assignEach [.Subscript (.Name o p1) a p2] X.env).map (·.2) = [assign (.Subscript (.Name o p1) a p2) X.env] := by rfl) :
    SD X W (.Assign [.Subscript (.Name o p1) a p2] e pos) ρ D := by
  refine PS_imp (ps_asg he (pg_sub (pe_var hN hv hd hcd) hix set_list hg) hs hw hm) fun E σ H ⟨C, F, se, cv⟩ => ?_
  refine ⟨C, F, se, fun v F1 H1 x1 e1 r1 => ?_⟩
  obtain ⟨l, a1, _, ⟨vs, a2, a3⟩, a4⟩ := e1.getO h0
  refine ⟨.ref l, a1, C, F1, e1, fun u F2 H2 x2 e2 r2 => ?_⟩
  obtain ⟨l', b1, _, ⟨us, b2, b3⟩, b4⟩ := e2.getO h1
  rw [a1] at b1
  cases b1
  refine ⟨l, us, ix, n, rfl, rp_int r2, b2, by rw [b3.length]; exact hn, cv.nx _ F2 _ _ h ?_⟩
  exact e2.wr h1 a1 ⟨us.set n v, upd_same, b3.set n (r1.mono x2)⟩

/-! ### targets -/
def tG (K : PySem.W.Frag) (d : PyData) (ρ ρ' : En) : TG := fun v σ H Q => ∃ C F, SE K C F H σ ρ ∧ Rp K F v d ∧ ∀ σ' F' H', Ex F F' → SE K C F' H' σ' ρ' → Q σ' H'
abbrev GD (X : Cx) (tg : Expr) (d : PyData) (ρ ρ' : En) : Prop := PG X tg (tG X.K d ρ ρ')
def tGs (K : PySem.W.Frag) (ds : List PyData) (ρ ρ' : En) : TGs := fun vs σ H Q => ∃ C F, SE K C F H σ ρ ∧ RpA K F vs ds ∧ ∀ σ' F' H', Ex F F' → SE K C F' H' σ' ρ' → Q σ' H'
abbrev GsD (X : Cx) (tg : List Expr) (d : List PyData) (ρ ρ' : En) : Prop := PGs X tg (tGs X.K d ρ ρ')
theorem PG_imp {t t' : TG} (h : PG X e t) (i : ∀ v σ H Q, t' v σ H Q → t v σ H Q) : PG X e t' := ⟨fun pins s σ H v u Q I r q => h.run pins s σ H v u Q I r (i _ _ _ _ q)⟩
theorem PGs_imp {t t' : TGs} (h : PGs X es t) (i : ∀ v σ H Q, t' v σ H Q → t v σ H Q) : PGs X es t' := ⟨fun pins s σ H v u Q I r q => h.run pins s σ H v u Q I r (i _ _ _ _ q)⟩
theorem PG_ex {ι : Type} {t : ι → TG} (h : ∀ i, PG X e (t i)) : PG X e (fun v σ H Q => ∃ i, t i v σ H Q) := ⟨fun pins s σ H v u Q I r ⟨i, q⟩ => (h i).run pins s σ H v u Q I r q⟩
theorem gd_name (i : Nat) (hN : X.N.Nodup) (hi : X.N[i]? = some w := by rfl) (hx : Loc X.env.scope w := by first | exact Or.inl rfl | exact Or.inr rfl)
    (hf : X.fn w = true ∨ X.env.scope.names.lookup w = some .local := by first | exact .inl rfl | exact .inr rfl) : GD X (.Name w pos) x ρ (ρ.set i (.d x)) := PG_imp (pg_name hN hi hx hf) fun v σ H Q ⟨C, F, se, r, q⟩ => q _ F H (.refl _) (se.setD r)
theorem gsd_nil : GsD X [] [] ρ ρ := PGs_imp pgs_nil fun v σ H Q ⟨C, F, se, r, q⟩ => ⟨by cases r; rfl, q _ F H (.refl _) se⟩
theorem gsd_cons (h : GD X e x ρ ρ1) (hr : GsD X es xs ρ1 ρ2) (hs : (assignEach (e :: es) X.env).map (·.2) = assign e X.env :: (assignEach es X.env).map (·.2) := by rfl) : GsD X (e :: es) (x :: xs) ρ ρ2 := PGs_imp (pgs_cons h hr hs) fun v σ H Q ⟨C, F, se, r, q⟩ => by
  cases r with
  | cons r1 r2 => exact ⟨_, _, rfl, C, F, se, r1, fun σ1 F1 H1 x1 e1 => ⟨C, F1, e1, r2.mono x1, fun σ2 F2 H2 x2 e2 => q σ2 F2 H2 (x1.trans x2) e2⟩⟩
theorem gd_tup {kk : Nat} (hc : X.calm = true) (h : GsD X es xs ρ ρ') (hn : (assignEach es X.env).length = xs.length := by rfl) (hst : (assignEach es X.env).findIdx? (·.1) = none := by rfl) : GD X (.Tuple es kk pos) (.tuple xs) ρ ρ' := PG_imp (pg_tup hc h hn hst) fun v σ H Q ⟨C, F, se, r, q⟩ => by
  cases r with
  | tup h1 h2 => exact ⟨_, _, rfl, SqT.of (se.fr.ext _ _ h1), h2.length, C, F, se, h2, q⟩
/-- a, b = e -/
theorem sd_unpack (he : PD X e ρ x ρ1) (hg : GD X a x ρ1 ρ2) (h : D.nx ρ2) (hs : swapsWithSole [a] e pos.line X.env = pure false := by rfl) (hw : swappedStores [a] e X.env = pure none := by rfl)
    (h1 : (assignEach [a] X.env).map (·.2) = [assign a X.env] := by rfl) : SD X W (.Assign [a] e pos) ρ D := PS_imp (ps_asg he hg hs hw h1) fun E σ H ⟨C, F, se, cv⟩ =>
  ⟨C, F, se, fun v F1 H1 _ e1 r1 => ⟨C, F1, e1, r1, fun σ2 F2 H2 _ e2 => cv.nx ρ2 F2 H2 σ2 h e2⟩⟩

/-! ### what is walked -/
/-- the items that come, as long as ok holds of the slots -/
structure Wk (K : PySem.W.Frag) (F0 : Hp) (σ0 : L2.St) (J : It) (its : List PyData) (ok : En → Prop) (own : Option Nat) : Prop where
  go : ∀ i C F H σ ρ, Ex F0 F → SE K C F H σ ρ → ok ρ → (∀ j, own = some j → σ[j]? = σ0[j]?) → i < its.length → J.go i H
  stop : ∀ C F H σ ρ, Ex F0 F → SE K C F H σ ρ → ok ρ → (∀ j, own = some j → σ[j]? = σ0[j]?) → J.stop its.length H
  yld : ∀ i C F H σ ρ v H1, Ex F0 F → SE K C F H σ ρ → ok ρ → (∀ j, own = some j → σ[j]? = σ0[j]?) → i < its.length → J.yld i H v H1 → ∃ d F1, its[i]? = some d ∧ Ex F F1 ∧ SE K C F1 H1 σ ρ ∧ Rp K F1 v d
def tI (K : PySem.W.Frag) (ρ : En) (its : List PyData) (ok : En → Prop) (own : Option Nat) (ρ' : En) : TI := fun σ H R => ∃ C F, SE K C F H σ ρ ∧ ∀ J F' H', Ex F F' → SE K C F' H' σ ρ' → Wk K F' σ J its ok own → R J H'
abbrev ID (X : Cx) (tg iter : Expr) (ρ : En) (its : List PyData) (ok : En → Prop) (own : Option Nat) (ρ' : En) : Prop := PI X tg iter (tI X.K ρ its ok own ρ')
theorem PI_imp {tg : Expr} {t t' : TI} (h : PI X tg e t) (i : ∀ σ H Q, t' σ H Q → t σ H Q) : PI X tg e t' := ⟨fun pins s σ H Q I q => h.run pins s σ H Q I (i _ _ _ q)⟩
theorem id_list {tg : Expr} {src : Option Nat} (h : PQ X e ρ src xs ρ') (ok' : SrcOk ρ' src xs) : ID X tg e ρ xs (fun r => SrcOk r src xs) src ρ' := PI_imp (pi_list h) fun σ H R ⟨C, F, se, q⟩ => by
  refine ⟨C, F, se, fun v F1 H1 x1 e1 s1 => ?_⟩
  obtain ⟨a, vs, rfl, l1, r1⟩ := s1.look e1 ok'
  have key : ∀ C F2 H2 σ2 ρ2, Ex F1 F2 → SE X.K C F2 H2 σ2 ρ2 → SrcOk ρ2 src xs → (∀ j, src = some j → σ2[j]? = σ[j]?) → ∃ us, SqL X.K H2 a us ∧ RpA X.K F2 us xs := fun C F2 H2 σ2 ρ2 x2 e2 ok2 hs => by
    have s2 : SrcV X.K F2 σ2 src (.ref a) xs := by
      cases src with
      | none => exact SrcV.mono (σ := σ) (src := none) x2 s1
      | some j =>
        obtain ⟨b, eb, hb⟩ := s1
        cases eb
        exact ⟨a, rfl, by rw [hs j rfl]; exact hb⟩
    obtain ⟨b, us, eb, l2, r2⟩ := s2.look e2 ok2
    cases eb
    exact ⟨us, l2, r2⟩
  refine ⟨a, rfl, ⟨vs, l1⟩, q _ F1 H1 x1 e1 ⟨fun i C F2 H2 σ2 ρ2 x2 e2 ok2 hs hi => ?_, fun C F2 H2 σ2 ρ2 x2 e2 ok2 hs => ?_, fun i C F2 H2 σ2 ρ2 v H3 x2 e2 ok2 hs hi y => ?_⟩⟩
  · obtain ⟨us, l2, r2⟩ := key C F2 H2 σ2 ρ2 x2 e2 ok2 hs
    have hl := r2.length
    exact walk_list.goes i H2 (by rw [hl]; exact hi) l2
  · obtain ⟨us, l2, r2⟩ := key C F2 H2 σ2 ρ2 x2 e2 ok2 hs
    rw [← r2.length]
    exact walk_list.stops H2 l2
  · obtain ⟨us, l2, r2⟩ := key C F2 H2 σ2 ρ2 x2 e2 ok2 hs
    obtain ⟨rfl, h3⟩ := walk_list.yields i H2 v H3 (by rw [r2.length]; exact hi) l2 y
    obtain ⟨d, h4, h5⟩ := r2.getV h3
    exact ⟨d, F2, h4, .refl _, e2, h5⟩
theorem id_tup {tg : Expr} (h : PD X e ρ (.tuple xs) ρ') : ID X tg e ρ xs (fun _ => True) none ρ' := PI_imp (pi_tup h) fun σ H R ⟨C, F, se, q⟩ => by
  refine ⟨C, F, se, fun v F1 H1 x1 e1 r1 => ?_⟩
  cases r1 with
  | @tup a vs _ h1 h2 =>
    refine ⟨a, rfl, ⟨vs, SqT.of (e1.fr.ext _ _ h1)⟩, q _ F1 H1 x1 e1 ⟨fun i C F2 H2 σ2 ρ2 x2 e2 ok2 hs hi => ?_, fun C F2 H2 σ2 ρ2 x2 e2 ok2 hs => ?_, fun i C F2 H2 σ2 ρ2 v H3 x2 e2 ok2 hs hi y => ?_⟩⟩
    · exact walk_tup.goes i H2 (by rw [h2.length]; exact hi) (SqT.of (e2.fr.ext _ _ (x2 _ _ h1)))
    · rw [← h2.length]; exact walk_tup.stops H2 (SqT.of (e2.fr.ext _ _ (x2 _ _ h1)))
    · obtain ⟨rfl, h3⟩ := walk_tup.yields i H2 v H3 (by rw [h2.length]; exact hi) (SqT.of (e2.fr.ext _ _ (x2 _ _ h1))) y
      obtain ⟨d, h4, h5⟩ := h2.getV h3
      exact ⟨d, F2, h4, .refl _, e2, h5.mono x2⟩
/-- the ints of a range -/
def rgD (lo : Int) (n : Nat) : List PyData := (List.range n).map fun i => .int (lo + (i : Nat))
theorem rgD_get {lo : Int} {n i : Nat} (h : i < n) : (rgD lo n)[i]? = some (.int (lo + (i : Nat))) := by
  unfold rgD; rw [List.getElem?_map, List.getElem?_range h]; rfl
theorem rgD_len {lo : Int} {n : Nat} : (rgD lo n).length = n := by unfold rgD; rw [List.length_map, List.length_range]
theorem wk_range {K : PySem.W.Frag} {F0 : Hp} {σ0 : L2.St} {lo : Int} {n : Nat} : Wk K F0 σ0 (Itr lo n) (rgD lo n) (fun _ => True) none :=
  ⟨fun i _ F H σ ρ _ _ _ _ hi => walk_range.goes i H (by rw [rgD_len] at hi; exact hi) trivial, fun _ F H σ ρ _ _ _ _ => by rw [rgD_len]; exact walk_range.stops H trivial, fun i _ F H σ ρ v H1 _ e _ _ hi y => by
    rw [rgD_len] at hi
    obtain ⟨rfl, rfl⟩ := walk_range.yields i H v H1 hi trivial y
    exact ⟨_, F, rgD_get hi, .refl _, e, .int _⟩⟩
theorem id_range1 {tg : Expr} {p : Pos} {n : Int} (hm : X.mg "range" = none) (h : PD X a ρ (.int n) ρ') (h1 : -(2 ^ 62) ≤ n) (h2 : n < 2 ^ 62) (hg : Gl X "range" := by rfl) (hs : starEach [a] X.env = [(false, eval a X.env)] := by rfl) : ID X tg (.Call (.Name "range" p) [a] [] pos) ρ (rgD 0 n.toNat) (fun _ => True) none ρ' :=
  PI_imp (pi_range1 hg hm (ad_cons h ad_nil hs) hs) fun σ H R ⟨C, F, se, q⟩ => ⟨C, F, se, fun vs F1 H1 x1 e1 r1 => by
    cases r1 with
    | cons a1 a2 =>
      cases a2
      rw [rp_int a1]
      exact ⟨n, rfl, h1, h2, q _ F1 H1 x1 e1 wk_range⟩⟩
theorem id_range2 {tg : Expr} {p : Pos} {m n : Int} (hm : X.mg "range" = none) (ha : PD X a ρ (.int m) ρ1) (hb : PD X b ρ1 (.int n) ρ') (h1 : -(2 ^ 62) ≤ m) (h2 : m < 2 ^ 62) (h3 : -(2 ^ 62) ≤ n) (h4 : n < 2 ^ 62) (hg : Gl X "range" := by rfl)
    (hs : starEach [a, b] X.env = [(false, eval a X.env), (false, eval b X.env)] := by rfl) (hs2 : starEach [b] X.env = [(false, eval b X.env)] := by rfl) : ID X tg (.Call (.Name "range" p) [a, b] [] pos) ρ (rgD m (n - m).toNat) (fun _ => True) none ρ' :=
  PI_imp (pi_range2 hg hm (ad_cons ha (ad_cons hb ad_nil hs2) (by rw [hs, hs2])) hs hs2) fun σ H R ⟨C, F, se, q⟩ => ⟨C, F, se, fun vs F1 H1 x1 e1 r1 => by
    cases r1 with
    | cons a1 a2 =>
      cases a2 with
      | cons a2 a3 =>
        cases a3
        rw [rp_int a1, rp_int a2]
        exact ⟨m, n, rfl, ⟨h1, h2, h3, h4⟩, q _ F1 H1 x1 e1 wk_range⟩⟩
/-- a text, sign by sign -/
def sgD (s : Str) : List PyData := s.cps.toList.map fun c => .str ⟨#[c]⟩
theorem id_str {tg : Expr} {s : Str} (h : PD X e ρ (.str s) ρ') : ID X tg e ρ (sgD s) (fun _ => True) none ρ' := PI_imp (pi_str h) fun σ H R ⟨C, F, se, q⟩ => ⟨C, F, se, fun v F1 H1 x1 e1 r1 => by
  have hl : (sgD s).length = s.cps.size := by unfold sgD; rw [List.length_map, Array.length_toList]
  refine ⟨s, rp_str r1, q _ F1 H1 x1 e1 ⟨fun i C F2 H2 σ2 ρ2 x2 e2 ok2 hs hi => ?_, fun C F2 H2 σ2 ρ2 x2 e2 ok2 hs => ?_, fun i C F2 H2 σ2 ρ2 v H3 x2 e2 ok2 hs hi y => ?_⟩⟩
  · exact walk_str.goes i H2 (by rw [hl] at hi; exact hi) trivial
  · rw [hl]; exact walk_str.stops H2 trivial
  · obtain ⟨rfl, c, h3, rfl⟩ := walk_str.yields i H2 v H3 (by rw [hl] at hi; exact hi) trivial y
    exact ⟨.str ⟨#[c]⟩, F2, by unfold sgD; rw [List.getElem?_map, Array.getElem?_toList, h3]; rfl, .refl _, e2, .str _⟩⟩
end
end G

/-! GLoop: loops and comprehensions in words of data. -/
namespace G
open PySem PySem.Spec PyProof.Rows L2

/-- P, of less -/
def Lee (P : En → Prop) (ρ : En) : Prop := ∃ ρ', Le ρ' ρ ∧ P ρ'
theorem Lee.of {P : En → Prop} {ρ : En} (h : P ρ) : Lee P ρ := ⟨ρ, Le.refl ρ, h⟩
section
variable {X : Cx} {W : WX} {e a b c tg iter elt : Expr} {es : List Expr} {pos pos' : Pos} {ρ ρ' ρ1 ρ2 ρ3 : En} {x y z : PyData} {xs ys its : List PyData} {st : Stmt} {rest A B body : List Stmt} {D : DE} {k : Bool} {i j : Nat} {w : Str} {ok : En → Prop}

theorem sd_for (I : Nat → En → Prop) (hp : PassesOwn (model X.prog X.w) X.A X.env X.xe) (hc : X.calm = true) (hi : ID X tg iter ρ its ok none ρ1) (h0 : Lee (I 0) ρ1) (hok : ∀ i ρ', I i ρ' → ok ρ')
    (hs : ∀ i d ρ', its[i]? = some d → I i ρ' → ∃ ρ2, GD X tg d ρ' ρ2 ∧ BD X W body ρ2 { D with nx := Lee (I (i + 1)), ct := Lee (I (i + 1)), bk := D.nx }) (hd : ∀ ρ', I its.length ρ' → D.nx ρ')
    (hf : ∀ x, foldedSetIterable iter X.env x = pure x := by intro _; rfl) : SD X W (.For tg iter body [] pos) ρ D := by
  have cho : ∀ p : { p : Nat × PyData × En // its[p.1]? = some p.2.1 ∧ I p.1 p.2.2 }, ∃ ρ2, GD X tg p.1.2.1 p.1.2.2 ρ2 ∧ BD X W body ρ2 { D with nx := Lee (I (p.1.1 + 1)), ct := Lee (I (p.1.1 + 1)), bk := D.nx } := fun p => hs _ _ _ p.2.1 p.2.2
  have hg := PG_ex fun p => (Classical.choose_spec (cho p)).1
  have hb := PSs_ex fun p => (Classical.choose_spec (cho p)).2
  refine PS_imp (ps_for hp hc hi hg hb hf) fun E σ H ⟨C, F, se, cv⟩ => ?_
  refine ⟨C, F, se, fun J F1 H1 x1 e1 wk => ?_⟩
  refine ⟨fun i m σ H => m = its.length - i ∧ i ≤ its.length ∧ ∃ ρ' F2, Ex F1 F2 ∧ SE X.K C F2 H σ ρ' ∧ I i ρ', ⟨its.length, by simp, Nat.zero_le _, ?_⟩, ?_⟩
  · obtain ⟨ρ', l, i0⟩ := h0
    exact ⟨ρ', F1, .refl _, e1.le l, i0⟩
  rintro i m σ2 H2 ⟨rfl, hle, ρ', F2, x2, e2, i2⟩
  by_cases hlt : i < its.length
  · refine .inr ⟨wk.go i _ F2 H2 σ2 ρ' x2 e2 (hok i ρ' i2) (fun j z => nomatch z) hlt, fun σ' H' => ∃ ρ' F2, Ex F1 F2 ∧ SE X.K C F2 H' σ' ρ' ∧ I (i + 1) ρ', fun σ' H' q => ⟨its.length - (i + 1), by omega, rfl, hlt, q⟩, fun v H3 y => ?_⟩
    obtain ⟨d, F3, hd3, x3, e3, r3⟩ := wk.yld i _ F2 H2 σ2 ρ' v H3 x2 e2 (hok i ρ' i2) (fun j z => nomatch z) hlt y
    refine ⟨⟨(i, d, ρ'), hd3, i2⟩, ⟨F1, C.H0, C.M⟩, F3, ⟨⟨e3.fr.ext, x2.trans x3, e3.fr.h0, e3.fr.there, ?_, e3.fr.mM⟩, e3.len, e3.ok, e3.sep, e3.own, e3.fresh⟩, r3, fun σ4 F4 H4 x4 e4 => ?_⟩
    · intro a ha z
      refine e3.fr.new a ha ?_
      cases q : C.F0 a with
      | none => rfl
      | some o =>
        have z' : F1 a = none := z
        rw [show F1 a = some o from e1.fr.f0 a o q] at z'; cases z'
    · refine ⟨⟨(i, d, ρ'), hd3, i2⟩, ⟨F1, C.H0, C.M⟩, F4, e4, ?_⟩
      have again : ∀ ρ5 F5 H5 σ5, Lee (I (i + 1)) ρ5 → SE X.K ⟨F1, C.H0, C.M⟩ F5 H5 σ5 ρ5 → ∃ ρ' F2, Ex F1 F2 ∧ SE X.K C F2 H5 σ5 ρ' ∧ I (i + 1) ρ' := fun ρ5 F5 H5 σ5 ⟨ρ6, l, i6⟩ e5 => ⟨ρ6, F5, e5.fr.f0, (e5.unbase e1.fr).le l, i6⟩
      exact ⟨fun r F5 H5 σ5 q e5 => again r F5 H5 σ5 q e5, fun x r v F5 H5 σ5 q e5 r5 => cv.rt x r v F5 H5 σ5 q (e5.unbase e1.fr) r5, fun c f r d F5 H5 σ5 q e5 r5 => cv.ex c f r d F5 H5 σ5 q (e5.unbase e1.fr) r5,
        fun r F5 H5 σ5 q e5 => cv.nx r F5 H5 σ5 q (e5.unbase e1.fr), fun r F5 H5 σ5 q e5 => again r F5 H5 σ5 q e5, fun c r p F5 H5 σ5 q e5 f5 h5 o5 => cv.rn c r p F5 H5 σ5 q (e5.unbase e1.fr) f5 h5 o5, fun c c2 r t p q F5 H5 σ5 d e5 ht f5 f6 h5 h6 np o5 o6 => cv.rq c c2 r t p q F5 H5 σ5 d (e5.unbase e1.fr) ht f5 f6 h5 h6 np o5 o6⟩
  · have q : i = its.length := by omega
    subst q
    exact .inl ⟨wk.stop _ F2 H2 σ2 ρ' x2 e2 (hok _ ρ' i2) (fun j z => nomatch z), cv.nx ρ' F2 H2 σ2 (hd ρ' i2) e2⟩

/-- while: I by the slots, a measure of the state it stands for -/
theorem sd_while {S : Type} (sh : S → En) (P : S → Prop) (μ : S → Nat) (cnd : S → Bool) (hp : PassesOwn (model X.prog X.w) X.A X.env X.xe) (h0 : ∃ s, Le (sh s) ρ ∧ P s)
    (hc : ∀ s, P s → TD X c (sh s) (cnd s) (sh s)) (hb : ∀ s, P s → cnd s = true → BD X W body (sh s) { D with nx := Lee (fun r => ∃ s', r = sh s' ∧ P s' ∧ μ s' < μ s), ct := Lee (fun r => ∃ s', r = sh s' ∧ P s' ∧ μ s' < μ s), bk := D.nx })
    (hd : ∀ s, P s → cnd s = false → D.nx (sh s)) : SD X W (.While c body [] pos) ρ D := by
  have hc' := PT_ex fun p : { s // P s } => hc p.1 p.2
  have hb' := PSs_ex fun p : { s // P s ∧ cnd s = true } => hb p.1 p.2.1 p.2.2
  refine PS_imp (ps_while hp hc' hb') fun E σ H ⟨C, F, se, cv⟩ => ?_
  obtain ⟨s0, l0, p0⟩ := h0
  refine ⟨fun m σ H => ∃ s F, P s ∧ m = μ s ∧ SE X.K C F H σ (sh s), ⟨μ s0, s0, F, p0, rfl, se.le l0⟩, ?_⟩
  rintro m σ1 H1 ⟨s, F1, p, rfl, e1⟩
  refine ⟨⟨s, p⟩, C, F1, e1, fun F2 H2 x2 e2 => ?_⟩
  cases q : cnd s with
  | true =>
    refine iteT ⟨fun σ' H' => ∃ s' F', P s' ∧ μ s' < μ s ∧ SE X.K C F' H' σ' (sh s'), fun σ' H' ⟨s', F', a, b, d⟩ => ⟨μ s', b, s', F', a, rfl, d⟩, ⟨s, p, q⟩, C, F2, e2, ?_⟩
    have again : ∀ ρ5 F5 H5 σ5, Lee (fun r => ∃ s', r = sh s' ∧ P s' ∧ μ s' < μ s) ρ5 → SE X.K C F5 H5 σ5 ρ5 → ∃ s' F', P s' ∧ μ s' < μ s ∧ SE X.K C F' H5 σ5 (sh s') := fun ρ5 F5 H5 σ5 ⟨ρ6, l, s', h1, h2, h3⟩ e5 => ⟨s', F5, h2, h3, by rw [← h1]; exact e5.le l⟩
    exact ⟨again, cv.rt, cv.ex, cv.nx, again, cv.rn, cv.rq⟩
  | false => exact iteF (cv.nx _ F2 H2 σ1 (hd s p q) e2)

/-! ### comprehensions -/
def wipeE (ρ : En) : List Nat → En
  | [] => ρ
  | v :: vs => (wipeE ρ vs).set v .un
theorem wipeE_len (ρ : En) : ∀ vs, (wipeE ρ vs).length = ρ.length
  | [] => rfl
  | v :: vs => by unfold wipeE; rw [List.length_set, wipeE_len ρ vs]
theorem wipe_out {σ : L2.St} {i : Nat} : ∀ {vs : List Nat}, i ∉ vs → (wipe σ vs)[i]? = σ[i]?
  | [], _ => rfl
  | v :: vs, h => by
    unfold wipe
    rw [List.getElem?_set_ne (fun q => h (by rw [q]; exact List.mem_cons_self)), wipe_out (fun q => h (List.mem_cons_of_mem _ q))]
theorem wipeE_out {ρ : En} {i : Nat} : ∀ {vs : List Nat}, i ∉ vs → (wipeE ρ vs)[i]? = ρ[i]?
  | [], _ => rfl
  | v :: vs, h => by
    unfold wipeE
    rw [List.getElem?_set_ne (fun q => h (by rw [q]; exact List.mem_cons_self)), wipeE_out (fun q => h (List.mem_cons_of_mem _ q))]
theorem wipeE_in {ρ : En} {i : Nat} {s : Sl} : ∀ {vs : List Nat}, i ∈ vs → (wipeE ρ vs)[i]? = some s → s = .un
  | v :: vs, h, q => by
    unfold wipeE at q
    by_cases hv : v = i
    · subst hv; exact (set_at q).1.symm
    · rw [List.getElem?_set_ne hv] at q
      rcases List.mem_cons.mp h with z | z
      · exact absurd z.symm hv
      · exact wipeE_in z q
theorem wipeE_le (ρ : En) : ∀ vs, Le (wipeE ρ vs) ρ
  | [] => Le.refl ρ
  | v :: vs => by
    have ih := wipeE_le ρ vs
    unfold wipeE
    have key : ∀ {r r' : En} (v : Nat), Le r r' → Le (r.set v .un) r' := fun {r r'} v h => by
      induction h generalizing v with
      | nil => exact .nil
      | un _ ih => cases v with
        | zero => rename_i h'; exact .un h'
        | succ v => exact .un (ih v)
      | eq _ ih => cases v with
        | zero => rename_i h'; exact .un h'
        | succ v => exact .eq (ih v)
    exact key v ih
theorem SE.wipe {K : PySem.W.Frag} {C : Cn} {F H : Hp} {σ : L2.St} (e : SE K C F H σ ρ) (vs : List Nat) : SE K C F H (L2.wipe σ vs) (wipeE ρ vs) :=
  (e.le (wipeE_le ρ vs)).sub (wipe_length σ vs) fun i s hs hn => by
    by_cases q : i ∈ vs
    · exact absurd (wipeE_in q hs) hn
    · exact wipe_out q
/-- the slots at vs as they were -/
def restE (ρ1 ρ' : En) : List Nat → En
  | [] => ρ'
  | v :: vs => (restE ρ1 ρ' vs).set v (match ρ1[v]? with | some (.d x) => .d x | _ => .un)
/-- back from a block -/
theorem SE.back {K : PySem.W.Frag} {C : Cn} {F1 H1 F H : Hp} {σ : L2.St} {vs : List Nat} (e1 : SE K C F1 H1 σ ρ1) (x : Ex F1 F) (e : SE K C F H (L2.wipe σ vs) (wipeE ρ' vs)) : SE K C F H σ (restE ρ1 ρ' vs) ∧ ∀ j a, Owns σ (restE ρ1 ρ' vs) j a → Owns (L2.wipe σ vs) (wipeE ρ' vs) j a := by
  have key : ∀ (ws : List Nat), (∀ v ∈ ws, v ∈ vs) → ∀ (i : Nat) (s : Sl), (restE ρ1 (wipeE ρ' vs) ws)[i]? = some s → (i ∈ ws ∧ ((∃ y, s = .d y ∧ ρ1[i]? = some (.d y)) ∨ s = .un)) ∨ (wipeE ρ' vs)[i]? = some s := by
    intro ws
    induction ws with
    | nil => intro _ i s h; exact .inr h
    | cons v ws ih =>
      intro hv i s h
      unfold restE at h
      by_cases q : v = i
      · subst q
        refine .inl ⟨List.mem_cons_self, ?_⟩
        have z := (set_at h).1
        cases r : ρ1[v]? with
        | none => rw [r] at z; exact .inr z.symm
        | some t =>
          cases t with
          | un => rw [r] at z; exact .inr z.symm
          | d y => rw [r] at z; exact .inl ⟨y, z.symm, rfl⟩
          | v y => rw [r] at z; exact .inr z.symm
          | o p c => rw [r] at z; exact .inr z.symm
      · rw [List.getElem?_set_ne q] at h
        rcases ih (fun u hu => hv u (List.mem_cons_of_mem _ hu)) i s h with ⟨a, b⟩ | a
        · exact .inl ⟨List.mem_cons_of_mem _ a, b⟩
        · exact .inr a
  have lenR : ∀ (ρ'' : En) (ws : List Nat), (restE ρ1 ρ'' ws).length = ρ''.length := fun ρ'' ws => by
    induction ws with
    | nil => rfl
    | cons v ws ih => unfold restE; rw [List.length_set, ih]
  have conv : ∀ j a, Owns σ (restE ρ1 (wipeE ρ' vs) vs) j a → Owns (L2.wipe σ vs) (wipeE ρ' vs) j a := fun j a ⟨h1, t, h2, h3⟩ => by
    rcases key vs (fun _ h => h) j t h2 with ⟨_, ⟨y, rfl, _⟩ | rfl⟩ | z
    · cases h3
    · cases h3
    · refine ⟨?_, t, z, h3⟩
      rw [wipe_out (fun q => by rw [wipeE_in q z] at h3; cases h3)]
      exact h1
  have main : SE K C F H σ (restE ρ1 (wipeE ρ' vs) vs) := by
    refine ⟨e.fr, ?_, fun i s hs => ?_, fun j k a hj hk => e.sep j k a (conv j a hj) (conv k a hk), fun j a hj => e.own j a (conv j a hj), fun j a c h1 h2 => ?_⟩
    · rw [lenR, ← e.len, wipe_length]
    · rcases key vs (fun _ h => h) i s hs with ⟨_, ⟨y, rfl, h1⟩ | rfl⟩ | z
      · obtain ⟨v, a, b⟩ := e1.get h1
        exact ⟨v, by rw [a]; rfl, b.mono x⟩
      · trivial
      · by_cases q : i ∈ vs
        · rw [wipeE_in q z]; trivial
        · have := e.ok i s z
          rw [wipe_out q] at this
          exact this
    · have ow := conv j a ⟨h2, _, h1, rfl⟩
      rcases key vs (fun _ h => h) j _ h1 with ⟨_, ⟨y, q, _⟩ | q⟩ | z
      · cases q
      · cases q
      · exact e.fresh j a c z ow.1
  -- restE over the wiped slots is restE over the slots
  have same : ∀ (ws : List Nat) (v : Nat), v ∈ ws → ∀ ρ'' : En, restE ρ1 (ρ''.set v .un) ws = restE ρ1 ρ'' ws := by
    intro ws
    induction ws with
    | nil => intro v hv; cases hv
    | cons u ws ih =>
      intro v hv ρ''
      unfold restE
      by_cases q : v ∈ ws
      · rw [ih v q]
      · have hvu : v = u := by
          rcases List.mem_cons.mp hv with z | z
          · exact z
          · exact absurd z q
        subst hvu
        have comm : ∀ (zs : List Nat), v ∉ zs → restE ρ1 (ρ''.set v .un) zs = (restE ρ1 ρ'' zs).set v .un := by
          intro zs
          induction zs with
          | nil => intro _; rfl
          | cons t zs ih2 =>
            intro ht
            unfold restE
            rw [ih2 (fun z => ht (List.mem_cons_of_mem _ z)), List.set_comm _ _ (fun z => ht (by rw [z]; exact List.mem_cons_self))]
        rw [comm ws q, List.set_set]
  have all : ∀ ws, (∀ v ∈ ws, v ∈ vs) → restE ρ1 (wipeE ρ' ws) vs = restE ρ1 ρ' vs := by
    intro ws
    induction ws with
    | nil => intro _; rfl
    | cons v ws ih =>
      intro h
      unfold wipeE
      rw [same vs v (h v List.mem_cons_self), ih (fun u hu => h u (List.mem_cons_of_mem _ hu))]
  rw [all vs (fun _ h => h)] at main conv
  exact ⟨main, conv⟩

/-- a target within a block: only the slots at vs are set -/
def tGv (K : PySem.W.Frag) (vs : List Nat) (d : PyData) (ρ ρ' : En) : TG := fun v σ H Q => ∃ C F, SE K C F H σ ρ ∧ Rp K F v d ∧ ∀ σ' F' H', L2.wipe σ' vs = L2.wipe σ vs → Ex F F' → SE K C F' H' σ' ρ' → Q σ' H'
abbrev GV (X : Cx) (vs : List Nat) (tg : Expr) (d : PyData) (ρ ρ' : En) : Prop := PG X tg (tGv X.K vs d ρ ρ')
def tGsv (K : PySem.W.Frag) (vs : List Nat) (ds : List PyData) (ρ ρ' : En) : TGs := fun us σ H Q => ∃ C F, SE K C F H σ ρ ∧ RpA K F us ds ∧ ∀ σ' F' H', L2.wipe σ' vs = L2.wipe σ vs → Ex F F' → SE K C F' H' σ' ρ' → Q σ' H'
abbrev GsV (X : Cx) (vs : List Nat) (tg : List Expr) (d : List PyData) (ρ ρ' : En) : Prop := PGs X tg (tGsv X.K vs d ρ ρ')
theorem wipe_set {σ : L2.St} {v : Nat} {o : Option V} : ∀ {vs : List Nat}, v ∈ vs → L2.wipe (σ.set v o) vs = L2.wipe σ vs
  | u :: vs, h => by
    unfold L2.wipe
    by_cases q : v ∈ vs
    · rw [wipe_set q]
    · have e : v = u := by
        rcases List.mem_cons.mp h with z | z
        · exact z
        · exact absurd z q
      subst e
      have comm : ∀ zs : List Nat, v ∉ zs → L2.wipe (σ.set v o) zs = (L2.wipe σ zs).set v o := by
        intro zs
        induction zs with
        | nil => intro _; rfl
        | cons t zs ih =>
          intro ht
          unfold L2.wipe
          rw [ih (fun z => ht (List.mem_cons_of_mem _ z)), List.set_comm _ _ (fun z => ht (by rw [z]; exact List.mem_cons_self))]
      rw [comm vs q, List.set_set]
theorem wipe_wipe {σ : L2.St} {vs : List Nat} : L2.wipe (L2.wipe σ vs) vs = L2.wipe σ vs := by
  have key : ∀ ws : List Nat, (∀ v ∈ ws, v ∈ vs) → L2.wipe (L2.wipe σ ws) vs = L2.wipe σ vs := by
    intro ws
    induction ws with
    | nil => intro _; rfl
    | cons v ws ih =>
      intro h
      show L2.wipe ((L2.wipe σ ws).set v none) vs = _
      rw [wipe_set (h v List.mem_cons_self), ih fun u hu => h u (List.mem_cons_of_mem _ hu)]
  exact key vs fun _ h => h
theorem gv_name {vs : List Nat} (i : Nat) (hv : i ∈ vs) (hN : X.N.Nodup) (hi : X.N[i]? = some w := by rfl) (hx : Loc X.env.scope w := by first | exact Or.inl rfl | exact Or.inr rfl)
    (hf : X.fn w = true ∨ X.env.scope.names.lookup w = some .local := by first | exact .inl rfl | exact .inr rfl) : GV X vs (.Name w pos) x ρ (ρ.set i (.d x)) := PG_imp (pg_name hN hi hx hf) fun v σ H Q ⟨C, F, se, r, q⟩ => q _ F H (wipe_set hv) (.refl _) (se.setD r)
theorem gsv_nil {vs : List Nat} : GsV X vs [] [] ρ ρ := PGs_imp pgs_nil fun v σ H Q ⟨C, F, se, r, q⟩ => ⟨by cases r; rfl, q _ F H rfl (.refl _) se⟩
theorem gsv_cons {vs : List Nat} (h : GV X vs e x ρ ρ1) (hr : GsV X vs es xs ρ1 ρ2) (hs : (assignEach (e :: es) X.env).map (·.2) = assign e X.env :: (assignEach es X.env).map (·.2) := by rfl) : GsV X vs (e :: es) (x :: xs) ρ ρ2 := PGs_imp (pgs_cons h hr hs) fun v σ H Q ⟨C, F, se, r, q⟩ => by
  cases r with
  | cons r1 r2 => exact ⟨_, _, rfl, C, F, se, r1, fun σ1 F1 H1 w1 x1 e1 => ⟨C, F1, e1, r2.mono x1, fun σ2 F2 H2 w2 x2 e2 => q σ2 F2 H2 (w2.trans w1) (x1.trans x2) e2⟩⟩
theorem gv_tup {vs : List Nat} {kk : Nat} (hc : X.calm = true) (h : GsV X vs es xs ρ ρ') (hn : (assignEach es X.env).length = xs.length := by rfl) (hst : (assignEach es X.env).findIdx? (·.1) = none := by rfl) : GV X vs (.Tuple es kk pos) (.tuple xs) ρ ρ' := PG_imp (pg_tup hc h hn hst) fun v σ H Q ⟨C, F, se, r, q⟩ => by
  cases r with
  | tup h1 h2 => exact ⟨_, _, rfl, SqT.of (se.fr.ext _ _ h1), h2.length, C, F, se, h2, q⟩


/-! ### the list that is being built: an object that no slot names -/
def Cn.pin (C : Cn) (F : Hp) (p : Addr) (o : HO) : Cn := ⟨F, upd C.H0 p o, C.M⟩
theorem SE.pin {K : PySem.W.Frag} {C : Cn} {F H : Hp} {σ : L2.St} {p : Addr} {o : HO} (e : SE K C F H σ ρ) (h0 : C.H0 p = none) (hp : H p = some o) (no : ∀ j, ¬ Owns σ ρ j p) : SE K (C.pin F p o) F H σ ρ := by
  refine ⟨⟨e.fr.ext, .refl _, fun a u hu m => ?_, fun a ha => ?_, fun _ _ z => .inl z, fun a ha => ?_⟩, e.len, e.ok, e.sep, fun j a hj => ?_, fun j a c h1 h2 => ?_⟩
  · have hu' : upd C.H0 p o a = some u := hu
    by_cases q : a = p
    · rw [q, upd_same] at hu'; rw [q, hp]; exact hu'
    · rw [upd_ne q] at hu'; exact e.fr.h0 a u hu' m
  · show upd C.H0 p o a = none
    rw [upd_ne (fun q => by rw [q, hp] at ha; cases ha)]; exact e.fr.there a ha
  · show upd C.H0 p o a ≠ none
    by_cases q : a = p
    · rw [q, upd_same]; exact fun z => nomatch z
    · rw [upd_ne q]; exact e.fr.mM a ha
  · obtain ⟨x, y, z⟩ := e.own j a hj
    refine ⟨x, y, ?_⟩
    show upd C.H0 p o a = none ∨ a ∈ C.M
    rw [upd_ne (fun q => no j (by rw [← q]; exact hj))]; exact z
  · show upd C.H0 p o a = none
    rw [upd_ne (fun q => no j (by rw [← q]; exact ⟨h2, _, h1, rfl⟩))]; exact e.fresh j a c h1 h2
theorem SE.unpin {K : PySem.W.Frag} {C : Cn} {F1 H1 F H : Hp} {σ : L2.St} {p : Addr} {o : HO} (f : Fr C F1 H1) (h0 : C.H0 p = none) (f1 : F1 p = none) (e : SE K (C.pin F1 p o) F H σ ρ) (nt : ∀ xs, o ≠ .tup xs := by intro _ h; cases h) : SE K C F H σ ρ ∧ F p = none ∧ H p = some o ∧ (∀ j, ¬ Owns σ ρ j p) := by
  have here : (C.pin F1 p o).H0 p = some o := upd_same
  have nm : p ∉ C.M := fun m => f.mM p m h0
  have nes : ∀ a, upd C.H0 p o a = none → a ≠ p ∧ C.H0 a = none := fun a ha => by
    by_cases q : a = p
    · rw [q, upd_same] at ha; cases ha
    · rw [upd_ne q] at ha; exact ⟨q, ha⟩
  refine ⟨⟨⟨e.fr.ext, f.f0.trans e.fr.f0, fun a u hu m => ?_, fun a ha => (nes a (e.fr.there a ha)).2, fun a ha z => ?_, f.mM⟩, e.len, e.ok, e.sep, fun j a hj => ?_, fun j a c h1 h2 => (nes a (e.fresh j a c h1 h2)).2⟩, ?_, ?_, ?_⟩
  · refine e.fr.h0 a u ?_ m
    show upd C.H0 p o a = some u
    rw [upd_ne (fun q => by rw [q, h0] at hu; cases hu)]; exact hu
  · refine (f.new a ha z).mono e.fr.f0 (e.fr.new a ?_)
    show upd C.H0 p o a ≠ none
    rw [upd_ne (fun q => ha (by rw [q]; exact h0))]; exact ha
  · obtain ⟨x, y, z⟩ := e.own j a hj
    refine ⟨x, y, ?_⟩
    rcases z with z | z
    · exact .inl (nes a z).2
    · exact .inr z
  · exact (e.fr.new p (ne_none here) f1).none e.fr.ext (fun xs q => nt xs (by rw [e.fr.h0 p o here nm] at q; cases q; rfl))
  · exact e.fr.h0 p o here nm
  · intro j hj
    rcases (e.own j p hj).2.2 with z | z
    · rw [here] at z; cases z
    · exact nm z
/-- it is changed -/
theorem SE.wrx {K : PySem.W.Frag} {C : Cn} {F H : Hp} {σ : L2.St} {p : Addr} {o o' : HO} (e : SE K C F H σ ρ) (h0 : C.H0 p = none) (fp : F p = none) (hp : H p = some o') (no : ∀ j, ¬ Owns σ ρ j p) : SE K C F (upd H p o) σ ρ := by
  refine ⟨⟨fun a u h => ?_, e.fr.f0, fun a u hu m => ?_, fun a ha => ?_, e.fr.new, e.fr.mM⟩, e.len, fun i s hs => ?_, e.sep, fun j a hj => ?_, e.fresh⟩
  · rw [upd_ne (fun q => by rw [q, fp] at h; cases h)]; exact e.fr.ext a u h
  · rw [upd_ne (fun q => by rw [q, h0] at hu; cases hu)]; exact e.fr.h0 a u hu m
  · by_cases q : a = p
    · rw [q, upd_same] at ha; cases ha
    · rw [upd_ne q] at ha; exact e.fr.there a ha
  · refine (e.ok i s hs).grow (.refl _) fun l u hl ho hu => ?_
    rw [upd_ne (fun q => no i (by rw [← q]; exact ⟨join_some hl, s, hs, ho⟩))]; exact hu
  · obtain ⟨x, y, z⟩ := e.own j a hj
    refine ⟨x, ?_, z⟩
    rw [upd_ne (fun q => no j (by rw [← q]; exact hj))]; exact y

/-! ### comprehensions, turn by turn -/
/-- X, in the block of a comprehension -/
def IsBlk (X : Cx) (scope : Scope) (Y : Cx) : Prop := ∃ (s : Shared) (H : Hp) (C : Addr) (cl : List (Str × Addr)) (fp : List Addr), Y = X.blk s H scope (compEnvC scope cl C X.env) fp
abbrev TsD (X : Cx) (es : List Expr) (ρ : En) (k : Bool) (ρ' : En) : Prop := PTs X es (tT X.K ρ k ρ')
theorem tsd_nil : TsD X [] ρ true ρ := ⟨fun pins s σ H Q I ⟨C, F, se, q⟩ => (pts_nil (X := X)).run pins s σ H Q I (q F H (.refl _) se)⟩
theorem tsd_one (h : TD X c ρ k ρ') : TsD X [c] ρ k ρ' := pts_one h
structure Turn where
  ρt : En
  ρm : En
  k : Bool
  y : PyData
  ρe : En
structure TurnOk (X : Cx) (scope : Scope) (vs : List Nat) (tg elt : Expr) (ifs : List Expr) (d : PyData) (ρ ρ' : En) (T : Turn) : Prop where
  tg : ∀ Y, IsBlk X scope Y → GV Y vs tg d (wipeE ρ vs) T.ρt
  ts : ∀ Y, IsBlk X scope Y → PTs Y ifs (tT X.K T.ρt T.k T.ρm)
  el : ∀ Y, IsBlk X scope Y → T.k = true → PE Y elt (tP X.K T.ρm T.y T.ρe)
  nx : Le (wipeE ρ' vs) (if T.k = true then T.ρe else T.ρm)
/-- what the turns leave -/
def outs (T : Nat → Turn) : Nat → List PyData
  | 0 => []
  | n + 1 => if (T n).k = true then outs T n ++ [(T n).y] else outs T n
theorem outs_len (T : Nat → Turn) : ∀ n, (outs T n).length ≤ n
  | 0 => Nat.le_refl _
  | n + 1 => by
    unfold outs
    have := outs_len T n
    split
    · rw [List.length_append, List.length_singleton]; omega
    · omega
theorem SE.wiped {K : PySem.W.Frag} {C : Cn} {F H : Hp} {σ : L2.St} {vs : List Nat} (e : SE K C F H σ (wipeE ρ vs)) : SE K C F H (L2.wipe σ vs) (wipeE ρ vs) :=
  e.sub (wipe_length σ vs) fun i s hs hn => by
    by_cases q : i ∈ vs
    · exact absurd (wipeE_in q hs) hn
    · exact wipe_out q
section
variable {scope : Scope} {own : List (Str × Nat)} {ifs : List Expr} {src : Option Nat} {T : Nat → Turn} {I : Nat → En}
/-- what is read of a list comprehension: any reader of targets, tests and elements that the turns give -/
theorem lc_read {Q : VK} {σ : L2.St} {H : Hp} {Kk : PySem.W.Frag} {C : Cn} {F : Hp} {J : It} {vs : List Nat} {g : TG} {tt : TT} {te : TE} (se : SE Kk C F H σ ρ1) (wk : Wk Kk F σ J its ok src) (h0 : Le (wipeE (I 0) vs) ρ1) (hsrc : ∀ j, src = some j → j ∉ vs) (hok : ∀ i, i ≤ its.length → ok (wipeE (I i) vs)) (hlen : its.length < 100000)
    (hg : ∀ i d, its[i]? = some d → ∀ v σ H Q, tGv Kk vs d (wipeE (I i) vs) (T i).ρt v σ H Q → g v σ H Q) (ht : ∀ i d, its[i]? = some d → ∀ σ H Q, tT Kk (T i).ρt (T i).k (T i).ρm σ H Q → tt σ H Q) (he : ∀ i d, its[i]? = some d → (T i).k = true → ∀ σ H Q, tP Kk (T i).ρm (T i).y (T i).ρe σ H Q → te σ H Q)
    (hnx : ∀ (i : Nat) (d : PyData), its[i]? = some d → Le (wipeE (I (i + 1)) vs) (if (T i).k = true then (T i).ρe else (T i).ρm))
    (hq : ∀ p F' H', Ex F F' → SE Kk C F' H' σ (restE ρ1 (I its.length) vs) → F' p = none → C.H0 p = none → (∀ j, ¬ Owns σ (restE ρ1 (I its.length) vs) j p) → Own1 Kk F' H' p (.l (outs T its.length)) → Q (.ref p) H') :
    ∀ Dl, H Dl = none → ∃ W : Nat → Nat → Hp → Prop, (∃ m, W 0 m (upd H Dl (.lst []))) ∧ ∀ i m H, W i m H →
      (J.stop i H ∧ Q (.ref Dl) H) ∨ (J.go i H ∧ ∃ Nx : Hp → Prop, (∀ H', Nx H' → ∃ m', m' < m ∧ W (i + 1) m' H') ∧ ∀ v H', J.yld i H v H' →
        g v (L2.wipe σ vs) H' fun σ2 H2 => L2.wipe σ2 vs = L2.wipe σ vs ∧ tt σ2 H2 fun b H3 =>
            if b = true then te σ2 H3 fun y H4 => ∃ acc, H4 Dl = some (.lst acc) ∧ acc.length < sizeLine ∧ Nx (upd H4 Dl (.lst (acc ++ [y]))) else Nx H3) := by
  intro Dl hD
  have w0 := (se.le h0).wiped
  let St (i : Nat) (H' : Hp) : Prop := ∃ F' acc, Ex F F' ∧ SE Kk C F' H' (L2.wipe σ vs) (wipeE (I i) vs) ∧ F' Dl = none ∧ H' Dl = some (.lst acc) ∧ (∀ j, ¬ Owns (L2.wipe σ vs) (wipeE (I i) vs) j Dl) ∧ RpA Kk F' acc (outs T i)
  have c0 : C.H0 Dl = none := se.fr.there Dl hD
  have fD : F Dl = none := se.fr.ext.none hD
  refine ⟨fun i m H => m = its.length - i ∧ i ≤ its.length ∧ St i H, ⟨its.length, by simp, Nat.zero_le _, F, [], .refl _, w0.grow (.side w0.fr.ext hD), fD, upd_same, not_owns_new w0 hD, .nil⟩, ?_⟩
  rintro i m H1 ⟨rfl, hle, F1, acc, x1, e1, f1, h1, n1, r1⟩
  have same : ∀ j, src = some j → (L2.wipe σ vs)[j]? = σ[j]? := fun j q => wipe_out (hsrc j q)
  by_cases hlt : i < its.length
  · refine .inr ⟨wk.go i _ F1 H1 _ _ x1 e1 (hok i hle) same hlt, St (i + 1), fun H' q => ⟨its.length - (i + 1), by omega, rfl, hlt, q⟩, fun v H2 y => ?_⟩
    have e1' := e1.pin c0 h1 n1
    obtain ⟨d, F2, hd, x2, e2, r2⟩ := wk.yld i _ F1 H1 _ _ v H2 x1 e1' (hok i hle) same hlt y
    refine hg i d hd _ _ _ _ ⟨_, F2, e2, r2, fun σ3 F3 H3 w3' x3 e3 => ?_⟩
    have w3 := w3'.trans wipe_wipe
    refine ⟨w3, ?_⟩
    refine ht i d hd _ _ _ ⟨_, F3, e3, fun F4 H4 x4 e4 => ?_⟩
    have nx := hnx i d hd
    have olen := outs_len T i
    cases k : (T i).k with
    | true =>
      rw [k, if_pos rfl] at nx
      refine iteT (he i d hd k _ _ _ ⟨_, F4, e4, fun y F5 H5 x5 e5 r5 => ?_⟩)
      obtain ⟨e6, f6, h6, n6⟩ := SE.unpin e1.fr c0 f1 (e5.le nx).wiped
      rw [w3] at e6 n6
      refine ⟨acc, h6, by rw [r1.length]; exact line_lt (by omega), F5, acc ++ [y], x1.trans (x2.trans (x3.trans (x4.trans x5))), e6.wrx c0 f6 h6 n6, f6, upd_same, n6, ?_⟩
      unfold outs
      rw [k, if_pos rfl]
      exact (r1.mono (x2.trans (x3.trans (x4.trans x5)))).append (.cons r5 .nil)
    | false =>
      rw [k, if_neg Bool.false_ne_true] at nx
      refine iteF ?_
      obtain ⟨e6, f6, h6, n6⟩ := SE.unpin e1.fr c0 f1 (e4.le nx).wiped
      rw [w3] at e6 n6
      refine ⟨F4, acc, x1.trans (x2.trans (x3.trans x4)), e6, f6, h6, n6, ?_⟩
      unfold outs
      rw [k, if_neg Bool.false_ne_true]
      exact r1.mono (x2.trans (x3.trans x4))
  · have q : i = its.length := by omega
    subst q
    obtain ⟨b1, b2⟩ := SE.back se x1 e1
    exact .inl ⟨wk.stop _ F1 H1 _ _ x1 e1 (hok _ hle) same, hq Dl F1 H1 x1 b1 f1 c0 (fun j hj => n1 j (b2 j Dl hj)) ⟨acc, h1, r1⟩⟩
/-- what a list comprehension needs, whatever is done with it -/
structure LcOk (X : Cx) (elt tg iter : Expr) (ifs : List Expr) (scope : Scope) (ρ : En) (ct : Ct) (ρ' : En) : Prop where
  ex : ∃ (own : List (Str × Nat)) (wi : TI) (g : TG) (tt : TT) (te : TE), PI X tg iter wi ∧ BlkOk X.N X.env.scope scope own ∧ (∀ (s : Shared) (H : Hp) (C : Addr) (cl : List (Str × Addr)) (fp : List Addr), PG (X.blk s H scope (compEnvC scope cl C X.env) fp) tg g) ∧
    (∀ (s : Shared) (H : Hp) (C : Addr) (cl : List (Str × Addr)) (fp : List Addr), PTs (X.blk s H scope (compEnvC scope cl C X.env) fp) ifs tt) ∧ (∀ (s : Shared) (H : Hp) (C : Addr) (cl : List (Str × Addr)) (fp : List Addr), PE (X.blk s H scope (compEnvC scope cl C X.env) fp) elt te) ∧
    ∀ σ H Q, tN X.K ρ ct ρ' σ H Q → tLc wi g tt te (own.map (·.2)) σ H Q
/-- a list comprehension -/
theorem lc_ok (I : Nat → En) (T : Nat → Turn) (hb : BlkOk X.N X.env.scope scope own) (hi : ID X tg iter ρ its ok src ρ1) (h0 : Le (wipeE (I 0) (own.map (·.2))) ρ1) (hsrc : ∀ j, src = some j → j ∉ own.map (·.2)) (hok : ∀ i, i ≤ its.length → ok (wipeE (I i) (own.map (·.2)))) (hlen : its.length < 100000)
    (hT : ∀ i d, its[i]? = some d → TurnOk X scope (own.map (·.2)) tg elt ifs d (I i) (I (i + 1)) (T i)) :
    LcOk X elt tg iter ifs scope ρ (.l (outs T its.length)) (restE ρ1 (I its.length) (own.map (·.2))) := by
  have hg := fun (s : Shared) (H : Hp) (C : Addr) (cl : List (Str × Addr)) (fp : List Addr) => PG_ex (t := fun (p : { p : Nat × PyData // its[p.1]? = some p.2 }) => tGv X.K (own.map (·.2)) p.1.2 (wipeE (I p.1.1) (own.map (·.2))) (T p.1.1).ρt) fun p => (hT p.1.1 p.1.2 p.2).tg _ ⟨s, H, C, cl, fp, rfl⟩
  have ht := fun (s : Shared) (H : Hp) (C : Addr) (cl : List (Str × Addr)) (fp : List Addr) => PTs_ex fun p : { p : Nat × PyData // its[p.1]? = some p.2 } => (hT p.1.1 p.1.2 p.2).ts _ ⟨s, H, C, cl, fp, rfl⟩
  have he := fun (s : Shared) (H : Hp) (C : Addr) (cl : List (Str × Addr)) (fp : List Addr) => PE_ex fun p : { p : Nat × PyData // its[p.1]? = some p.2 ∧ (T p.1).k = true } => (hT p.1.1 p.1.2 p.2.1).el _ ⟨s, H, C, cl, fp, rfl⟩ p.2.2
  refine ⟨own, _, _, _, _, hi, hb, hg, ht, he, fun σ H Q ⟨C, F, se, q⟩ => ⟨C, F, se, fun J F1 H1 x1 e1 wk => ?_⟩⟩
  exact lc_read (g := fun v σ H Q => ∃ p : { p : Nat × PyData // its[p.1]? = some p.2 }, tGv X.K (own.map (·.2)) p.1.2 (wipeE (I p.1.1) (own.map (·.2))) (T p.1.1).ρt v σ H Q)
    (tt := fun σ H Q => ∃ p : { p : Nat × PyData // its[p.1]? = some p.2 }, tT X.K (T p.1.1).ρt (T p.1.1).k (T p.1.1).ρm σ H Q)
    (te := fun σ H Q => ∃ p : { p : Nat × PyData // its[p.1]? = some p.2 ∧ (T p.1).k = true }, tP X.K (T p.1.1).ρm (T p.1.1).y (T p.1.1).ρe σ H Q) e1 wk h0 hsrc hok hlen (fun i d hd v σ H Q t => ⟨⟨(i, d), hd⟩, t⟩) (fun i d hd σ H Q t => ⟨⟨(i, d), hd⟩, t⟩) (fun i d hd k σ H Q t => ⟨⟨(i, d), hd, k⟩, t⟩) (fun i d hd => (hT i d hd).nx) fun p F2 H2 x2 e2 f2 c2 n2 o2 => q p F2 H2 (x1.trans x2) e2 f2 c2 n2 o2
theorem pn_lc {ct : Ct} (h : LcOk X elt tg iter ifs scope ρ ct ρ') (hN : X.N.Nodup) (hc : X.calm = true := by rfl) (hs : ∀ x, foldedSetIterable iter X.env x = pure x := by intro _; rfl) : PN X (.ListComp elt [⟨tg, iter, ifs, 0⟩] scope pos) ρ ct ρ' := by
  obtain ⟨own, wi, g, tt, te, hi, hb, hg, ht, he, q⟩ := h.ex
  exact PE_imp (pe_lc hc hN hi hb hg ht he hs) q
/-- name = [..] on one line, the name a local: it goes on as its own list -/
theorem sd_setLcN {ct : Ct} {spos : Pos} (i : Nat) (h : LcOk X elt tg iter ifs scope ρ ct ρ') (h2 : D.nx (ρ'.set i (.o none ct))) (hN : X.N.Nodup) (hc : X.calm = true := by rfl) (hy : X.N[i]? = some w := by rfl) (hyl : X.env.scope.names.lookup w = some .local := by rfl)
    (hsw : swapsWith (.ListComp elt [⟨tg, iter, ifs, 0⟩] scope pos) (some (.Name w pos')) spos.line X.env = pure true := by rfl) (hs : ∀ x, foldedSetIterable iter X.env x = pure x := by intro _; rfl) : SD X W (.Assign [.Name w pos'] (.ListComp elt [⟨tg, iter, ifs, 0⟩] scope pos) spos) ρ D := by
  obtain ⟨own, wi, g, tt, te, hi, hb, hg, ht, he, q⟩ := h.ex
  exact PS_imp (ps_setLc hc hN hy hyl hsw hi hb hg ht he hs) fun E σ H ⟨C, F, se, cv⟩ => q σ H _ ⟨C, F, se, fun p F1 H1 x1 e1 fp h0 no r1 => cv.nx _ F1 H1 _ h2 (e1.setOwn fp h0 no r1)⟩
/-- .. as data -/
theorem sd_setLcD {spos : Pos} (i : Nat) (h : LcOk X elt tg iter ifs scope ρ (.l xs) ρ') (h2 : D.nx (ρ'.set i (.d (.list xs)))) (hN : X.N.Nodup) (hc : X.calm = true := by rfl) (hy : X.N[i]? = some w := by rfl) (hyl : X.env.scope.names.lookup w = some .local := by rfl)
    (hsw : swapsWith (.ListComp elt [⟨tg, iter, ifs, 0⟩] scope pos) (some (.Name w pos')) spos.line X.env = pure true := by rfl) (hs : ∀ x, foldedSetIterable iter X.env x = pure x := by intro _; rfl) : SD X W (.Assign [.Name w pos'] (.ListComp elt [⟨tg, iter, ifs, 0⟩] scope pos) spos) ρ D := by
  obtain ⟨own, wi, g, tt, te, hi, hb, hg, ht, he, q⟩ := h.ex
  refine PS_imp (ps_setLc hc hN hy hyl hsw hi hb hg ht he hs) fun E σ H ⟨C, F, se, cv⟩ => q σ H _ ⟨C, F, se, fun p F1 H1 x1 e1 fp h0 no r1 => ?_⟩
  obtain ⟨vs, hp, r⟩ := r1
  exact cv.nx _ (upd F1 p (.lst vs)) H1 _ h2 ((e1.frz fp hp h0 no).setD (.lst (SqL.of upd_same) (r.mono (.new fp))))
end
end
end G

/-! GCall: what defs promise, in words of data; calls. -/
namespace G
open PySem PySem.Spec PyProof.Rows L2

/-- how a call ends: it gives data, a new object, or raises -/
inductive Res where
  | ret (y : PyData)
  | own (c : Ct)
  | own2 (c c2 : Ct)
  | exc (cls : Value) (fs : List (Str × PyData))
def RetD (K : PySem.W.Frag) (F H : Hp) (Q : VK) (E : XK) : Res → Prop
  | .ret y => ∀ v F' H', Gr F H F' H' → Rp K F' v y → Q v H'
  | .own c => ∀ p F' H', Gr F H F' H' → H p = none → F' p = none → Own1 K F' H' p c → Q (.ref p) H'
  | .own2 c c2 => ∀ t p q F' H', Gr F H F' H' → H' t = some (.tup [.ref p, .ref q]) → F' p = none → F' q = none → H p = none → H q = none → p ≠ q → Own1 K F' H' p c → Own1 K F' H' q c2 → Q (.ref t) H'
  | .exc cls fs => ∀ d F' H', Gr F H F' H' → ExRep K F' H' d fs → E cls d H'
/-- growth, but for the object at l -/
structure GrW (l : Addr) (F H F' H' : Hp) : Prop where
  f : Ex F F'
  h : ∀ a o, a ≠ l → H a = some o → H' a = some o
  fh : Ex F' H'
  new : ∀ a, H a ≠ none → F a = none → Nt F' a
theorem SE.wrg {K : PySem.W.Frag} {C : Cn} {F H F' H' : Hp} {σ : L2.St} {ρ : En} (e : SE K C F H σ ρ) {i : Nat} {l : Addr} {p : Option Addr} {c c' : Ct} (g : GrW l F H F' H') (hi : ρ[i]? = some (.o p c)) (hl : σ[i]? = some (some (.ref l))) (h : Own1 K F' H' l c') : SE K C F' H' σ (ρ.set i (.o p c')) := by
  have ow : Owns σ ρ i l := ⟨hl, _, hi, rfl⟩
  obtain ⟨w1, w2, w3⟩ := e.own i l ow
  have hp : p = none ∨ p = some l := by
    obtain ⟨l', a, b, _⟩ := e.getO hi
    rw [hl] at a
    cases a
    exact b
  have conv : ∀ j a, Owns σ (ρ.set i (.o p c')) j a → Owns σ ρ j a := fun j a hj => by
    obtain ⟨h1, t, h2, h3⟩ := hj
    by_cases q : j = i
    · subst q
      rw [hl] at h1
      cases h1
      exact ow
    · rw [List.getElem?_set_ne (Ne.symm q)] at h2
      exact ⟨h1, t, h2, h3⟩
  have back : ∀ a, H' a = none → H a = none := fun a ha => by
    by_cases q : a = l
    · subst q; exact absurd ha h.some
    · cases z : H a with
      | none => rfl
      | some o => rw [g.h a o q z] at ha; cases ha
  refine ⟨⟨g.fh, e.fr.f0.trans g.f, fun a u hu m => ?_, fun a ha => e.fr.there a (back a ha), fun a ha z => (e.fr.new a ha z).mono g.f (g.new a (fun q => ha (e.fr.there a q))), e.fr.mM⟩, by rw [List.length_set]; exact e.len, fun j t ht => ?_, fun j k a hj hk => e.sep j k a (conv j a hj) (conv k a hk), fun j a hj => ?_, fun j a d h1 h2 => ?_⟩
  · refine g.h a u (fun q => ?_) (e.fr.h0 a u hu m)
    subst q
    rcases w3 with z | z
    · rw [z] at hu; cases hu
    · exact m z
  · by_cases q : j = i
    · subst q
      obtain ⟨rfl, _⟩ := set_at ht
      rw [hl]
      exact ⟨l, rfl, hp, h⟩
    · rw [List.getElem?_set_ne (Ne.symm q)] at ht
      exact (e.ok j t ht).grow g.f fun b u hb ot hu => g.h b u (fun nb => q (by subst nb; exact e.sep j i b (slot_own ht ot (join_some hb)) ow)) hu
  · obtain ⟨x1, x2, x3⟩ := e.own j a (conv j a hj)
    refine ⟨(g.new a x2 x1).none g.fh (fun xs q => ?_), fun z => x2 (back a z), x3⟩
    by_cases qa : a = l
    · subst qa; exact h.nt xs q
    · obtain ⟨o, ho⟩ := some_of x2
      exact e.nt (conv j a hj) xs (by rw [g.h a o qa ho] at q; rw [ho, q])
  · by_cases q : j = i
    · subst q
      obtain ⟨q1, _⟩ := set_at h1
      cases q1
      exact e.fresh j a c hi h2
    · rw [List.getElem?_set_ne (Ne.symm q)] at h1
      exact e.fresh j a d h1 h2
/-- a promise over data -/
def spD (K : PySem.W.Frag) (S : List PyData → Res → Prop) : Sp := fun vs H Q E => ∃ F ds r, Ex F H ∧ RpA K F vs ds ∧ S ds r ∧ RetD K F H Q E r
/-- .. where the first argument is a list that is changed -/
def spO (K : PySem.W.Frag) (S : List PyData → List PyData → PyData → List PyData → Prop) : Sp := fun vs H Q E => ∃ F l vs' us xs ds y xs', vs = .ref l :: vs' ∧ Ex F H ∧ F l = none ∧ H l = some (.lst us) ∧ RpA K F us xs ∧ RpA K F vs' ds ∧ S xs ds y xs' ∧
  ∀ v F' H' us', GrW l F H F' H' → H' l = some (.lst us') → RpA K F' us' xs' → Rp K F' v y → Q v H'
/-- what a body has at its start -/
def pad (n : Nat) (l : En) : En := l ++ List.replicate (n - l.length) .un
def Dof : Res → DE
  | .ret y => { rt := fun x _ => x = y, nx := fun _ => y = .none }
  | .own c => { rn := fun c' _ => c' = c }
  | .own2 c c2 => { rq := fun c' c2' _ => c' = c ∧ c2' = c2 }
  | .exc cls fs => { ex := fun c' fs' _ => c' = cls ∧ fs' = fs }
section
variable {K : PySem.W.Frag} {F H : Hp}
theorem start_get {N : List Str} {vs : List V} {i : Nat} : (L2.start N vs)[i]?.join = vs[i]? := by
  unfold L2.start
  by_cases h : i < vs.length
  · rw [List.getElem?_append_left (by rw [List.length_map]; exact h), List.getElem?_map, List.getElem?_eq_getElem h]; rfl
  · rw [List.getElem?_append_right (by rw [List.length_map]; omega), List.getElem?_eq_none (Nat.le_of_not_lt h), List.getElem?_replicate]
    split <;> rfl
theorem pad_get {n i : Nat} {l : En} {s : Sl} (h : (pad n l)[i]? = some s) : l[i]? = some s ∨ s = .un := by
  unfold pad at h
  by_cases q : i < l.length
  · rw [List.getElem?_append_left q] at h; exact .inl h
  · rw [List.getElem?_append_right (by omega), List.getElem?_replicate] at h
    split at h
    · cases h; exact .inr rfl
    · cases h
theorem pad_len {n : Nat} {l : En} (h : l.length ≤ n) : (pad n l).length = n := by
  unfold pad; rw [List.length_append, List.length_replicate]; omega
theorem start_len {N : List Str} {vs : List V} (h : vs.length ≤ N.length) : (L2.start N vs).length = N.length := by
  unfold L2.start; rw [List.length_append, List.length_map, List.length_replicate]; omega
theorem SE.start {N : List Str} {vs : List V} {ds : List PyData} (e : Ex F H) (r : RpA K F vs ds) (hl : vs.length ≤ N.length) : SE K ⟨F, H, []⟩ F H (L2.start N vs) (pad N.length (ds.map .d)) := by
  have no : ∀ i a, ¬ Owns (L2.start N vs) (pad N.length (ds.map .d)) i a := fun i a ⟨_, s, h2, h3⟩ => by
    rcases pad_get h2 with z | z
    · rw [List.getElem?_map] at z
      cases q : ds[i]? with
      | none => rw [q] at z; cases z
      | some d => rw [q] at z; cases z; cases h3
    · subst z; cases h3
  refine ⟨⟨e, .refl _, fun _ _ h _ => h, fun _ h => h, fun _ _ z => .inl z, fun a ha => by cases ha⟩, ?_, fun i s h => ?_, fun i j a hi => absurd hi (no i a), fun i a hi => absurd hi (no i a), fun i a c h1 h2 => absurd ⟨h2, _, h1, rfl⟩ (no i a)⟩
  · rw [start_len hl, pad_len (by rw [List.length_map, ← r.length]; exact hl)]
  · rw [start_get]
    rcases pad_get h with z | z
    · rw [List.getElem?_map] at z
      cases q : ds[i]? with
      | none => rw [q] at z; cases z
      | some d =>
        rw [q] at z; cases z
        obtain ⟨v, h1, h2⟩ := r.get q
        exact ⟨v, h1, h2⟩
    · subst z; trivial
theorem SE.startO {N : List Str} {l : Addr} {us vs : List V} {xs ds : List PyData} (e : Ex F H) (fl : F l = none) (hl0 : H l = some (.lst us)) (ru : RpA K F us xs) (r : RpA K F vs ds) (hl : vs.length + 1 ≤ N.length) :
    SE K ⟨F, H, [l]⟩ F H (L2.start N (.ref l :: vs)) (pad N.length (.o (some l) (.l xs) :: ds.map .d)) := by
  have ow : ∀ i a, Owns (L2.start N (.ref l :: vs)) (pad N.length (.o (some l) (.l xs) :: ds.map .d)) i a → i = 0 ∧ a = l := fun i a ⟨h1, s, h2, h3⟩ => by
    rcases pad_get h2 with z | z
    · cases i with
      | zero =>
        have := start_get (N := N) (vs := .ref l :: vs) (i := 0)
        rw [h1] at this
        cases this
        exact ⟨rfl, rfl⟩
      | succ i =>
        rw [List.getElem?_cons_succ, List.getElem?_map] at z
        cases q : ds[i]? with
        | none => rw [q] at z; cases z
        | some d => rw [q] at z; cases z; cases h3
    · subst z; cases h3
  refine ⟨⟨e, .refl _, fun _ _ h _ => h, fun _ h => h, fun _ _ z => .inl z, fun a ha => ?_⟩, ?_, fun i s h => ?_, fun i j a hi hj => by rw [(ow i a hi).1, (ow j a hj).1], fun i a hi => ?_, fun i a c h1 h2 => ?_⟩
  · cases List.mem_singleton.mp ha
    show H l ≠ none
    rw [hl0]; exact fun z => nomatch z
  · rw [start_len (by simpa using hl), pad_len (by rw [List.length_cons, List.length_map, ← r.length]; exact hl)]
  · rw [start_get]
    rcases pad_get h with z | z
    · cases i with
      | zero => cases z; exact ⟨l, rfl, .inr rfl, us, hl0, ru⟩
      | succ i =>
        rw [List.getElem?_cons_succ, List.getElem?_map] at z
        rw [List.getElem?_cons_succ]
        cases q : ds[i]? with
        | none => rw [q] at z; cases z
        | some d =>
          rw [q] at z; cases z
          obtain ⟨v, h1, h2⟩ := r.get q
          exact ⟨v, h1, h2⟩
    · subst z; trivial
  · obtain ⟨rfl, rfl⟩ := ow i a hi
    refine ⟨fl, ?_, .inr (List.mem_singleton.mpr rfl)⟩
    rw [hl0]; exact fun z => nomatch z
  · obtain ⟨rfl, rfl⟩ := ow i a ⟨h2, _, h1, rfl⟩
    rcases pad_get h1 with z | z
    · cases z
    · cases z
theorem Gr.ofFr {F' H' : Hp} (f : Fr ⟨F, H, []⟩ F' H') : Gr F H F' H' := ⟨f.f0, fun a o h => f.h0 a o h (by simp), f.ext, f.new⟩
theorem GrW.ofFr {l : Addr} {F' H' : Hp} (f : Fr ⟨F, H, [l]⟩ F' H') : GrW l F H F' H' := ⟨f.f0, fun a o q h => f.h0 a o h (by simpa using q), f.ext, f.new⟩
end
section
variable {P : Program} {w : World} {K : PySem.W.Frag} {mg : Str → Option Value} {base : Heap} {x qual : Str} {st : Stmt} {f : Addr} {fd : FuncData} {N ps : List Str} {k : Nat}
abbrev WB (E : XK) : WX := fun cls d _ H => E cls d H
theorem body_run {X : Cx} {E : XK} {Q : VK} {sts : List Stmt} {F H : Hp} {vs : List V} {r : Res} {ds : List PyData} (hK : X.K = K) (ex : Ex F H) (rv : RpA K F vs ds) (hl : vs.length ≤ N.length) (rd : RetD K F H Q E r) :
    tD K (WB E) (pad N.length (ds.map .d)) (Dof r) { nx := fun _ H' => Q .non H', rt := Q } (L2.start N vs) H := by
  refine ⟨⟨F, H, []⟩, F, .start ex rv hl, ?_⟩
  cases r with
  | ret y =>
    exact ⟨fun ρ' F' H' σ' q s => rd _ F' H' (.ofFr s.fr) (by rw [show y = .none from q]; exact .non), fun x ρ' v F' H' σ' q s rp => rd v F' H' (.ofFr s.fr) (by rw [← show x = y from q]; exact rp), fun _ _ _ _ _ _ _ z => z.elim, fun _ _ _ _ z => z.elim, fun _ _ _ _ z => z.elim, fun _ _ _ _ _ _ z => z.elim, fun _ _ _ _ _ _ _ _ _ z => z.elim⟩
  | own c =>
    exact ⟨fun _ _ _ _ z => z.elim, fun _ _ _ _ _ _ z => z.elim, fun _ _ _ _ _ _ _ z => z.elim, fun _ _ _ _ z => z.elim, fun _ _ _ _ z => z.elim, fun c' ρ' p F' H' σ' q s fp hp o => by
      cases (show c' = c from q)
      exact rd p F' H' (.ofFr s.fr) hp fp o, fun _ _ _ _ _ _ _ _ _ z => z.elim⟩
  | own2 c c2 =>
    exact ⟨fun _ _ _ _ z => z.elim, fun _ _ _ _ _ _ z => z.elim, fun _ _ _ _ _ _ _ z => z.elim, fun _ _ _ _ z => z.elim, fun _ _ _ _ z => z.elim, fun _ _ _ _ _ _ z => z.elim, fun c' c2' ρ' t p q F' H' σ' d s ht fp fq hp hq np o1 o2 => by
      obtain ⟨rfl, rfl⟩ := (show c' = c ∧ c2' = c2 from d)
      exact rd t p q F' H' (.ofFr s.fr) ht fp fq hp hq np o1 o2⟩
  | exc cls fs =>
    exact ⟨fun _ _ _ _ z => z.elim, fun _ _ _ _ _ _ z => z.elim, fun c' fs' ρ' d F' H' σ' q s rp => by
      obtain ⟨rfl, rfl⟩ := (show c' = cls ∧ fs' = fs from q)
      exact rd d F' H' (.ofFr s.fr) rp, fun _ _ _ _ z => z.elim, fun _ _ _ _ z => z.elim, fun _ _ _ _ _ _ z => z.elim, fun _ _ _ _ _ _ _ _ _ z => z.elim⟩
/-- .. with defaults -/
theorem fn_DD {S : List PyData → Res → Prop} {params : Arguments} {body : List Stmt} {scope : Scope} {dvs : List V} {kws : List (Str × V)} (Fn : FunD K x qual params body scope dvs kws f fd) (Sc : FnScope N ps scope) (hlen : ∀ ds r, S ds r → ds.length = ps.length) (hN : ps.length ≤ N.length)
    (hb : ∀ (cdv : Value) (A : Around) (outer : List Env) (s : Shared) (H : Hp) (E : XK), Room k (A.deeper (envOfC qual scope s.heap.objs.size f cdv)) → ∀ ds r, S ds r →
      BD (cxOf (L2N.CX P w) P w K mg base N qual scope f cdv A outer s H E) (WB E) body (pad N.length (ds.map .d)) (Dof r)) : FnOk P w K mg base (L2N.CX P w) (k + 1) f fd ps (spD K S) := by
  refine Fn.ok Sc (fun vs H Q E ⟨F, ds, r, _, rv, s, _⟩ => by rw [rv.length]; exact hlen ds r s) fun cdv A outer s H vs Q E hr ⟨F, ds, r, ex, rv, sr, rd⟩ => ?_
  exact ⟨_, hb cdv A outer s H E hr ds r sr, body_run (X := cxOf (L2N.CX P w) P w K mg base N qual scope f cdv A outer s H E) (sts := []) rfl ex rv (by rw [rv.length, hlen ds r sr]; exact hN) rd⟩
/-- .. where the first argument is changed -/
theorem fn_OD {params : Arguments} {body : List Stmt} {scope : Scope} {dvs : List V} {kws : List (Str × V)} {S : List PyData → List PyData → PyData → List PyData → Prop} (Fn : FunD K x qual params body scope dvs kws f fd) (Sc : FnScope N ps scope) (hlen : ∀ xs ds y xs', S xs ds y xs' → ds.length + 1 = ps.length) (hN : ps.length ≤ N.length)
    (hb : ∀ (cdv : Value) (A : Around) (outer : List Env) (s : Shared) (H : Hp) (E : XK), Room k (A.deeper (envOfC qual scope s.heap.objs.size f cdv)) → ∀ l xs ds y xs', S xs ds y xs' →
      BD (cxOf (L2N.CX P w) P w K mg base N qual scope f cdv A outer s H E) (WB E) body (pad N.length (.o (some l) (.l xs) :: ds.map .d)) { rt := fun x ρ => x = y ∧ ρ[0]? = some (.o (some l) (.l xs')), nx := fun ρ => y = .none ∧ ρ[0]? = some (.o (some l) (.l xs')) }) :
    FnOk P w K mg base (L2N.CX P w) (k + 1) f fd ps (spO K S) := by
  refine Fn.ok Sc (fun vs H Q E ⟨F, l, vs', us, xs, ds, y, xs', ev, _, _, _, _, rv, s, _⟩ => by rw [ev, List.length_cons, rv.length]; exact hlen _ _ _ _ s) fun cdv A outer s H vs Q E hr ⟨F, l, vs', us, xs, ds, y, xs', ev, ex, fl, hl, ru, rv, sr, rd⟩ => ?_
  subst ev
  refine ⟨_, hb cdv A outer s H E hr l xs ds y xs' sr, ⟨F, H, [l]⟩, F, .startO ex fl hl ru rv (by rw [rv.length, hlen _ _ _ _ sr]; exact hN), ?_⟩
  have look : ∀ {C : Cn} {F' H' : Hp} {σ' : L2.St} {ρ' : En}, SE K C F' H' σ' ρ' → ρ'[0]? = some (.o (some l) (.l xs')) → ∃ us', H' l = some (.lst us') ∧ RpA K F' us' xs' := fun {C F' H' σ' ρ'} s h => by
    obtain ⟨l', _, b, ⟨us', c, d⟩, _⟩ := s.getO h
    rcases b with b | b
    · cases b
    · cases b
      exact ⟨us', c, d⟩
  refine ⟨fun ρ' F' H' σ' ⟨q1, q2⟩ s => ?_, fun x ρ' v F' H' σ' ⟨q1, q2⟩ s rp => ?_, fun _ _ _ _ _ _ _ z => z.elim, fun _ _ _ _ z => z.elim, fun _ _ _ _ z => z.elim, fun _ _ _ _ _ _ z => z.elim, fun _ _ _ _ _ _ _ _ _ z => z.elim⟩
  · obtain ⟨us', c, d⟩ := look s q2
    exact rd _ F' H' us' (.ofFr s.fr) c d (by rw [q1]; exact .non)
  · obtain ⟨us', c, d⟩ := look s q2
    exact rd v F' H' us' (.ofFr s.fr) c d (by rw [← q1]; exact rp)
/-- a def that may be called by its name, dvs: the defaults that fill up -/
structure Cal (P : Program) (w : World) (K : PySem.W.Frag) (mg : Str → Option Value) (base : Heap) (k : Nat) (x : Str) (sp : Sp) (dvs : List V) : Prop where
  ex : ∃ (f : Addr) (fd : FuncData) (ps : List Str) (ds : List Value), FnOk P w K mg base (L2N.CX P w) k f fd ps sp ∧ mg x = some (.ref f) ∧ PySem.W.keepIn K (.ref f) = true ∧ Binds K fd ps ds ∧ Vals dvs ds
theorem Cal.mono {j k : Nat} {sp : Sp} {dvs : List V} (c : Cal P w K mg base j x sp dvs) (h : j ≤ k) : Cal P w K mg base k x sp dvs := by
  obtain ⟨f, fd, ps, ds, a, b⟩ := c.ex
  exact ⟨f, fd, ps, ds, a.mono h, b⟩
end
/-- defaults as data: ints, texts, None, booleans -/
inductive Dfs : List V → List PyData → Prop
  | nil : Dfs [] []
  | int {i : Int} {vs : List V} {ds : List PyData} : Dfs vs ds → Dfs (.int i :: vs) (.int i :: ds)
  | str {i : Str} {vs : List V} {ds : List PyData} : Dfs vs ds → Dfs (.str i :: vs) (.str i :: ds)
  | bl {i : Bool} {vs : List V} {ds : List PyData} : Dfs vs ds → Dfs (.bl i :: vs) (.bool i :: ds)
  | non {vs : List V} {ds : List PyData} : Dfs vs ds → Dfs (.non :: vs) (.none :: ds)
theorem Dfs.rp {K : PySem.W.Frag} {F : Hp} : ∀ {vs : List V} {ds : List PyData}, Dfs vs ds → RpA K F vs ds
  | _, _, .nil => .nil
  | _, _, .int h => .cons (.int _) h.rp
  | _, _, .str h => .cons (.str _) h.rp
  | _, _, .bl h => .cons (.bl _) h.rp
  | _, _, .non h => .cons .non h.rp
section
variable {X : Cx} {W : WX} {e a b c : Expr} {es : List Expr} {p pos pos' : Pos} {ρ ρ' ρ1 ρ2 ρ3 : En} {y z : PyData} {xs ys xs' ds : List PyData} {i j k : Nat} {x : Str} {dvs : List V} {dds : List PyData}
theorem passE0 {X : Cx} (σ : L2.St) : PassesAt (L2N.CX X.prog X.w) X σ E0 := fun _ _ _ _ _ _ h => by
  obtain ⟨_, _, _, _, _, _, _, _, _, _, _, _, z⟩ := h
  exact z.elim
theorem pd_call {S : List PyData → Res → Prop} (cl : Cal X.prog X.w X.K X.mg X.base j x (spD X.K S) dvs) (hr : Room k X.A) (hd : Dfs dvs dds) (ha : AD X (e :: es) ρ ds ρ1) (hS : S (ds ++ dds) (.ret y)) (hk : j ≤ k := by decide) (hg : Gl X x := by rfl)
    (hdb : (x == ("__debug__" : Str)) = false := by decide) (he : starEach (e :: es) X.env = (false, eval e X.env) :: starEach es X.env := by rfl) (hpl : (backTo pos (starEach es X.env)).any (·.1) = false := by rfl) :
    PD X (.Call (.Name x p) (e :: es) [] pos) ρ y ρ1 := by
  obtain ⟨f, fd, ps, dd, fn, hm, kp, bi, vv⟩ := cl.ex
  refine PE_imp (pe_callSD fn (hr.mono hk) hg hm kp bi vv (fun σ => passE0 σ) ha hdb he hpl) fun σ H Q ⟨C, F, se, q⟩ => ⟨C, F, se, fun vs F1 H1 x1 e1 r1 => ?_⟩
  exact ⟨F1, _, _, e1.fr.ext, r1.append hd.rp, hS, fun v F2 H2 g r => q v F2 H2 (x1.trans g.f) (e1.grow g) r⟩
theorem pn_call {S : List PyData → Res → Prop} {ct : Ct} (cl : Cal X.prog X.w X.K X.mg X.base j x (spD X.K S) dvs) (hr : Room k X.A) (hd : Dfs dvs dds) (ha : AD X (e :: es) ρ ds ρ1) (hS : S (ds ++ dds) (.own ct)) (hk : j ≤ k := by decide) (hg : Gl X x := by rfl)
    (hdb : (x == ("__debug__" : Str)) = false := by decide) (he : starEach (e :: es) X.env = (false, eval e X.env) :: starEach es X.env := by rfl) (hpl : (backTo pos (starEach es X.env)).any (·.1) = false := by rfl) :
    PN X (.Call (.Name x p) (e :: es) [] pos) ρ ct ρ1 := by
  obtain ⟨f, fd, ps, dd, fn, hm, kp, bi, vv⟩ := cl.ex
  refine PE_imp (pe_callSD fn (hr.mono hk) hg hm kp bi vv (fun σ => passE0 σ) ha hdb he hpl) fun σ H Q ⟨C, F, se, q⟩ => ⟨C, F, se, fun vs F1 H1 x1 e1 r1 => ?_⟩
  exact ⟨F1, _, _, e1.fr.ext, r1.append hd.rp, hS, fun p F2 H2 g hp fp o => q p F2 H2 (x1.trans g.f) (e1.grow g) fp (e1.fr.there p hp) (not_owns_new e1 hp) o⟩
/-- an expression that raises -/
def tX (K : PySem.W.Frag) (W : WX) (ρ : En) (cls : Value) (fs : List (Str × PyData)) (ρ' : En) : TE := fun σ H _ => ∃ C F, SE K C F H σ ρ ∧ ∀ d F' H', Ex F F' → SE K C F' H' σ ρ' → ExRep K F' H' d fs → W cls d σ H'
abbrev PX (X : Cx) (W : WX) (e : Expr) (ρ : En) (cls : Value) (fs : List (Str × PyData)) (ρ' : En) : Prop := PE X e (tX X.K W ρ cls fs ρ')
theorem px_call {S : List PyData → Res → Prop} {cls : Value} {fs : List (Str × PyData)} (tk : L2N.Takes X W) (cl : Cal X.prog X.w X.K X.mg X.base j x (spD X.K S) dvs) (hr : Room k X.A) (hd : Dfs dvs dds) (ha : AD X (e :: es) ρ ds ρ1) (hS : S (ds ++ dds) (.exc cls fs)) (hk : j ≤ k := by decide) (hg : Gl X x := by rfl)
    (hdb : (x == ("__debug__" : Str)) = false := by decide) (he : starEach (e :: es) X.env = (false, eval e X.env) :: starEach es X.env := by rfl) (hpl : (backTo pos (starEach es X.env)).any (·.1) = false := by rfl) :
    PX X W (.Call (.Name x p) (e :: es) [] pos) ρ cls fs ρ1 := by
  obtain ⟨f, fd, ps, dd, fn, hm, kp, bi, vv⟩ := cl.ex
  refine PE_imp (pe_callSD fn (hr.mono hk) hg hm kp bi vv (fun σ => L2N.passAt tk σ) ha hdb he hpl) fun σ H Q ⟨C, F, se, q⟩ => ⟨C, F, se, fun vs F1 H1 x1 e1 r1 => ?_⟩
  exact ⟨F1, _, _, e1.fr.ext, r1.append hd.rp, hS, fun d F2 H2 g r => q d F2 H2 (x1.trans g.f) (e1.grow g) r⟩
/-- the first argument a name that owns its list, which is changed -/
theorem pd_callO {S : List PyData → List PyData → PyData → List PyData → Prop} {o : Str} {p0 : Pos} {pa pb : Option Addr} (i : Nat) (cl : Cal X.prog X.w X.K X.mg X.base j x (spO X.K S) dvs) (hr : Room k X.A) (hd : Dfs dvs dds) (h0 : ρ[i]? = some (.o pa (.l ys))) (ha : AD X es ρ ds ρ1) (h1 : ρ1[i]? = some (.o pb (.l xs))) (hS : S xs (ds ++ dds) y xs') (hk : j ≤ k := by decide) (hg : Gl X x := by rfl)
    (hN : X.N[i]? = some o := by rfl) (hv : Vis X.env.scope o := by first | exact Or.inl rfl | exact Or.inr (Or.inl rfl) | exact Or.inr (Or.inr rfl)) (hdo : (o == ("__debug__" : Str)) = false := by decide) (hcd : (o == ("__classdict__" : Str)) = false := by decide)
    (hdb : (x == ("__debug__" : Str)) = false := by decide) (he : starEach (.Name o p0 :: es) X.env = (false, eval (.Name o p0) X.env) :: starEach es X.env := by rfl) (hpl : (backTo pos (starEach es X.env)).any (·.1) = false := by rfl) :
    PD X (.Call (.Name x p) (.Name o p0 :: es) [] pos) ρ y (ρ1.set i (.o pb (.l xs'))) := by
  obtain ⟨f, fd, ps, dd, fn, hm, kp, bi, vv⟩ := cl.ex
  refine PE_imp (pe_callSD fn (hr.mono hk) hg hm kp bi vv (fun σ => passE0 σ) (pa_cons (pe_var hN hv hdo hcd) ha he) hdb he hpl) fun σ H Q ⟨C, F, se, q⟩ => ?_
  obtain ⟨l, a1, _, _, a4⟩ := se.getO h0
  refine ⟨.ref l, a1, C, F, se, fun vs F1 H1 x1 e1 r1 => ?_⟩
  obtain ⟨l', b1, b2, ⟨us, b3, b5⟩, b4⟩ := e1.getO h1
  rw [a1] at b1
  cases b1
  refine ⟨F1, l, vs ++ dvs, us, xs, ds ++ dds, y, xs', rfl, e1.fr.ext, (e1.own i l b4).1, b3, b5, r1.append hd.rp, hS, fun v F2 H2 us' g h2 ru rv => ?_⟩
  exact q v F2 H2 (x1.trans g.f) (e1.wrg g h1 a1 ⟨us', h2, ru⟩) rv
end
end G

/-! GBuiltin: built-in functions and operations in words of data. -/
namespace G
open PySem PySem.Spec PyProof.Rows L2

theorem rpa_one {K : PySem.W.Frag} {F : Hp} {vs : List V} {x : PyData} (r : RpA K F vs [x]) : ∃ v, vs = [v] ∧ Rp K F v x := by
  cases r with
  | cons a b => cases b; exact ⟨_, rfl, a⟩
theorem rpa_two {K : PySem.W.Frag} {F : Hp} {vs : List V} {x y : PyData} (r : RpA K F vs [x, y]) : ∃ v w, vs = [v, w] ∧ Rp K F v x ∧ Rp K F w y := by
  cases r with
  | cons a b =>
    obtain ⟨w, rfl, h⟩ := rpa_one b
    exact ⟨_, _, rfl, a, h⟩
/-- a built-in function's reading takes data to data -/
def FnD (K : PySem.W.Frag) (r : List V → Hp → VK → Prop) (xs : List PyData) (y : PyData) : Prop := ∀ (F H : Hp) (vs : List V) (Q : VK), Ex F H → RpA K F vs xs → (∀ v F' H', Gr F H F' H' → Rp K F' v y → Q v H') → r vs H Q
/-- .. to a new object -/
def FnN (K : PySem.W.Frag) (r : List V → Hp → VK → Prop) (xs : List PyData) (c : Ct) : Prop := ∀ (F H : Hp) (vs : List V) (Q : VK), Ex F H → RpA K F vs xs → (∀ p F' H', Gr F H F' H' → H p = none → F' p = none → Own1 K F' H' p c → Q (.ref p) H') → r vs H Q
section
variable {X : Cx} {W : WX} {e a b c : Expr} {es : List Expr} {p pos pos' apos : Pos} {ρ ρ' ρ1 ρ2 ρ3 : En} {x y z : PyData} {xs ys zs ds : List PyData} {i j : Int} {k : Nat} {w : Str} {s t : Str} {id T : String} {r : List V → Hp → VK → Prop} {ct : Ct}
theorem pd_bi (hc : CallR X (.builtin id) r) (hf : FnD X.K r ds y) (ha : AD X (e :: es) ρ ds ρ1) (hm : X.mg w = none) (hv : bootBuiltins w = some (.builtin id) := by rfl) (hg : Gl X w := by rfl) (hn : w ≠ "__name__" := by decide) (hdb : (w == ("__debug__" : Str)) = false := by decide)
    (he : starEach (e :: es) X.env = (false, eval e X.env) :: starEach es X.env := by rfl) (hpl : (backTo pos (starEach es X.env)).any (·.1) = false := by rfl) : PD X (.Call (.Name w p) (e :: es) [] pos) ρ y ρ1 :=
  PE_imp (pe_callB hc hg hm hv ha hn hdb he hpl) fun σ H Q ⟨C, F, se, q⟩ => ⟨C, F, se, fun vs F1 H1 x1 e1 r1 => hf F1 H1 vs Q e1.fr.ext r1 fun v F2 H2 g r2 => q v F2 H2 (x1.trans g.f) (e1.grow g) r2⟩
theorem pd_ty (hc : CallR X (.type T) r) (hf : FnD X.K r ds y) (ha : AD X (e :: es) ρ ds ρ1) (hm : X.mg w = none) (hv : bootBuiltins w = some (.type T) := by rfl) (hg : Gl X w := by rfl) (hn : w ≠ "__name__" := by decide) (hdb : (w == ("__debug__" : Str)) = false := by decide)
    (he : starEach (e :: es) X.env = (false, eval e X.env) :: starEach es X.env := by rfl) (hpl : (backTo pos (starEach es X.env)).any (·.1) = false := by rfl) : PD X (.Call (.Name w p) (e :: es) [] pos) ρ y ρ1 :=
  PE_imp (pe_callTy hc hg hm hv ha hn hdb he hpl) fun σ H Q ⟨C, F, se, q⟩ => ⟨C, F, se, fun vs F1 H1 x1 e1 r1 => hf F1 H1 vs Q e1.fr.ext r1 fun v F2 H2 g r2 => q v F2 H2 (x1.trans g.f) (e1.grow g) r2⟩
theorem pn_of {K : PySem.W.Frag} {C : Cn} {F F1 H1 : Hp} {σ : L2.St} {Q : VK} (x1 : Ex F F1) (e1 : SE K C F1 H1 σ ρ1) (q : ∀ p F' H', Ex F F' → SE K C F' H' σ ρ1 → F' p = none → C.H0 p = none → (∀ j, ¬ Owns σ ρ1 j p) → Own1 K F' H' p ct → Q (.ref p) H') :
    ∀ p F' H', Gr F1 H1 F' H' → H1 p = none → F' p = none → Own1 K F' H' p ct → Q (.ref p) H' := fun p F2 H2 g hp fp o => q p F2 H2 (x1.trans g.f) (e1.grow g) fp (e1.fr.there p hp) (not_owns_new e1 hp) o
theorem pn_bi (hc : CallR X (.builtin id) r) (hf : FnN X.K r ds ct) (ha : AD X (e :: es) ρ ds ρ1) (hm : X.mg w = none) (hv : bootBuiltins w = some (.builtin id) := by rfl) (hg : Gl X w := by rfl) (hn : w ≠ "__name__" := by decide) (hdb : (w == ("__debug__" : Str)) = false := by decide)
    (he : starEach (e :: es) X.env = (false, eval e X.env) :: starEach es X.env := by rfl) (hpl : (backTo pos (starEach es X.env)).any (·.1) = false := by rfl) : PN X (.Call (.Name w p) (e :: es) [] pos) ρ ct ρ1 :=
  PE_imp (pe_callB hc hg hm hv ha hn hdb he hpl) fun σ H Q ⟨C, F, se, q⟩ => ⟨C, F, se, fun vs F1 H1 x1 e1 r1 => hf F1 H1 vs Q e1.fr.ext r1 (pn_of x1 e1 q)⟩
theorem pn_ty (hc : CallR X (.type T) r) (hf : FnN X.K r ds ct) (ha : AD X (e :: es) ρ ds ρ1) (hm : X.mg w = none) (hv : bootBuiltins w = some (.type T) := by rfl) (hg : Gl X w := by rfl) (hn : w ≠ "__name__" := by decide) (hdb : (w == ("__debug__" : Str)) = false := by decide)
    (he : starEach (e :: es) X.env = (false, eval e X.env) :: starEach es X.env := by rfl) (hpl : (backTo pos (starEach es X.env)).any (·.1) = false := by rfl) : PN X (.Call (.Name w p) (e :: es) [] pos) ρ ct ρ1 :=
  PE_imp (pe_callTy hc hg hm hv ha hn hdb he hpl) fun σ H Q ⟨C, F, se, q⟩ => ⟨C, F, se, fun vs F1 H1 x1 e1 r1 => hf F1 H1 vs Q e1.fr.ext r1 (pn_of x1 e1 q)⟩
theorem ad_one (h : PD X e ρ x ρ1) (hs : starEach [e] X.env = (false, eval e X.env) :: starEach [] X.env := by rfl) : AD X [e] ρ [x] ρ1 := ad_cons h ad_nil hs
theorem ad_two (ha : PD X a ρ x ρ1) (hb : PD X b ρ1 y ρ2) (hs : starEach [a, b] X.env = (false, eval a X.env) :: starEach [b] X.env := by rfl) (hs2 : starEach [b] X.env = (false, eval b X.env) :: starEach [] X.env := by rfl) : AD X [a, b] ρ [x, y] ρ2 := ad_cons ha (ad_one hb hs2) hs

/-! ### ints -/
theorem pd_abs (hm : X.mg ("abs" : Str) = none) (ha : PD X a ρ (.int i) ρ1) (hg : Gl X "abs" := by rfl) (he : starEach [a] X.env = (false, eval a X.env) :: starEach [] X.env := by rfl) : PD X (.Call (.Name "abs" p) [a] [] pos) ρ (.int (i.natAbs : Int)) ρ1 :=
  pd_bi call_abs (fun F H vs Q e r q => by
    obtain ⟨v, rfl, h⟩ := rpa_one r
    rw [rp_int h]
    refine ⟨i, rfl, q _ F H (.refl e) ?_⟩
    rw [show (if i < 0 then -i else i) = (i.natAbs : Int) by split <;> omega]
    exact .int _) (ad_one ha he) hm rfl hg (by decide) (by decide) he
theorem pd_int1 (hm : X.mg ("int" : Str) = none) (ha : PD X a ρ (.int i) ρ1) (hg : Gl X "int" := by rfl) (he : starEach [a] X.env = (false, eval a X.env) :: starEach [] X.env := by rfl) : PD X (.Call (.Name "int" p) [a] [] pos) ρ (.int i) ρ1 :=
  pd_ty call_int1 (fun F H vs Q e r q => by
    obtain ⟨v, rfl, h⟩ := rpa_one r
    rw [rp_int h]
    exact .inl ⟨i, rfl, q _ F H (.refl e) (.int _)⟩) (ad_one ha he) hm rfl hg (by decide) (by decide) he
theorem pd_max2 (hc : X.calm = true) (hm : X.mg ("max" : Str) = none) (ha : PD X a ρ (.int i) ρ1) (hb : PD X b ρ1 (.int j) ρ2) (hg : Gl X "max" := by rfl) (he : starEach [a, b] X.env = (false, eval a X.env) :: starEach [b] X.env := by rfl) (he2 : starEach [b] X.env = (false, eval b X.env) :: starEach [] X.env := by rfl) (hpl : (backTo pos (starEach [b] X.env)).any (·.1) = false := by rfl) :
    PD X (.Call (.Name "max" p) [a, b] [] pos) ρ (.int (max i j)) ρ2 :=
  pd_bi (call_max2 hc) (fun F H vs Q e r q => by
    obtain ⟨v, w, rfl, h, h'⟩ := rpa_two r
    rw [rp_int h, rp_int h']
    refine ⟨i, j, rfl, q _ F H (.refl e) ?_⟩
    rw [show (if j > i then j else i) = max i j by omega]
    exact .int _) (ad_two ha hb he he2) hm rfl hg (by decide) (by decide) he hpl
theorem pd_min2 (hc : X.calm = true) (hm : X.mg ("min" : Str) = none) (ha : PD X a ρ (.int i) ρ1) (hb : PD X b ρ1 (.int j) ρ2) (hg : Gl X "min" := by rfl) (he : starEach [a, b] X.env = (false, eval a X.env) :: starEach [b] X.env := by rfl) (he2 : starEach [b] X.env = (false, eval b X.env) :: starEach [] X.env := by rfl) (hpl : (backTo pos (starEach [b] X.env)).any (·.1) = false := by rfl) :
    PD X (.Call (.Name "min" p) [a, b] [] pos) ρ (.int (min i j)) ρ2 :=
  pd_bi (call_min2 hc) (fun F H vs Q e r q => by
    obtain ⟨v, w, rfl, h, h'⟩ := rpa_two r
    rw [rp_int h, rp_int h']
    refine ⟨i, j, rfl, q _ F H (.refl e) ?_⟩
    rw [show (if j < i then j else i) = min i j by omega]
    exact .int _) (ad_two ha hb he he2) hm rfl hg (by decide) (by decide) he hpl
theorem pd_mulW (hc : CMulW i j) (ha : PD X a ρ (.int i) ρ1) (hb : PD X b ρ1 (.int j) ρ2) : PD X (.BinOp a .Mult b pos) ρ (.int (i * j)) ρ2 := pd_op op_mulW (opd_I hc fun _ => .int _) ha hb
/-- // and % of any int by a small one -/
theorem pd_fdivN (hc : CDivN i j) (ha : PD X a ρ (.int i) ρ1) (hb : PD X b ρ1 (.int j) ρ2) : PD X (.BinOp a .FloorDiv b pos) ρ (.int (i.fdiv j)) ρ2 := pd_op op_fdivN (opd_I hc fun _ => .int _) ha hb
/-- a op b op c, of ints -/
def cmpI : CmpOp → Option (Int → Int → Bool)
  | .Lt => some fun i j => decide (i < j)
  | .LtE => some fun i j => decide (i ≤ j)
  | .Gt => some fun i j => decide (j < i)
  | .GtE => some fun i j => decide (j ≤ i)
  | _ => none
theorem op_cmpI {op : CmpOp} {f : Int → Int → Bool} (h : cmpI op = some f) : OpR X (compareOp op) (rI0 fun i j => .bl (f i j)) := by
  cases op <;> first | (cases h; first | exact op_lt | exact op_le | exact op_gt | exact op_ge) | cases h
theorem pd_chain {op op' : CmpOp} {f g : Int → Int → Bool} {l : Int} (hf : cmpI op = some f) (hg : cmpI op' = some g) (ha : PD X a ρ (.int i) ρ1) (hb : PD X b ρ1 (.int j) ρ2) (hc : f i j = true → PD X c ρ2 (.int l) ρ2)
    (hm : lastMarks [op, op'] [b, c] = false := by with_unfolding_all rfl) : PD X (.Compare a [op, op'] [b, c] pos) ρ (.bool (f i j && g j l)) ρ2 := by
  cases q : f i j with
  | true =>
    refine PE_imp (pe_chain (op_cmpI hf) (op_cmpI hg) ha hb (hc q) hm) fun σ H Q ⟨C, F, se, qq⟩ => ⟨C, F, se, fun v F1 H1 x1 e1 r1 => ⟨C, F1, e1, fun u F2 H2 x2 e2 r2 => ⟨i, j, rp_int r1, rp_int r2, true, congrArg V.bl q, ?_⟩⟩⟩
    rw [if_pos rfl]
    exact ⟨C, F2, e2, fun t F3 H3 x3 e3 r3 => ⟨j, l, rp_int r2, rp_int r3, qq _ F3 H3 (x1.trans (x2.trans x3)) e3 (by rw [Bool.true_and]; exact .bl _)⟩⟩
  | false =>
    have hc' : PE X c (fun _ _ _ => False) := ⟨fun _ _ _ _ _ _ h => h.elim⟩
    refine PE_imp (pe_chain (op_cmpI hf) (op_cmpI hg) ha hb hc' hm) fun σ H Q ⟨C, F, se, qq⟩ => ⟨C, F, se, fun v F1 H1 x1 e1 r1 => ⟨C, F1, e1, fun u F2 H2 x2 e2 r2 => ⟨i, j, rp_int r1, rp_int r2, false, congrArg V.bl q, ?_⟩⟩⟩
    rw [if_neg Bool.false_ne_true]
    exact qq _ F2 H2 (x1.trans x2) e2 (.bl _)
theorem td_chain {op op' : CmpOp} {f g : Int → Int → Bool} {l : Int} (hf : cmpI op = some f) (hg : cmpI op' = some g) (ha : PD X a ρ (.int i) ρ1) (hb : PD X b ρ1 (.int j) ρ2) (hc : f i j = true → PD X c ρ2 (.int l) ρ2)
    (hm : lastMarks [op, op'] [b, c] = false := by with_unfolding_all rfl) : TD X (.Compare a [op, op'] [b, c] pos) ρ (f i j && g j l) ρ2 := by
  cases q : f i j with
  | true =>
    refine PT_imp (pt_chain (op_cmpI hf) (op_cmpI hg) ha hb (hc q) hm) fun σ H Q ⟨C, F, se, qq⟩ => ⟨C, F, se, fun v F1 H1 x1 e1 r1 => ⟨C, F1, e1, fun u F2 H2 x2 e2 r2 => ⟨i, j, rp_int r1, rp_int r2, true, congrArg V.bl q, ?_⟩⟩⟩
    rw [if_pos rfl]
    exact ⟨C, F2, e2, fun t F3 H3 x3 e3 r3 => ⟨j, l, rp_int r2, rp_int r3, _, rfl, qq F3 H3 (x1.trans (x2.trans x3)) e3⟩⟩
  | false =>
    have hc' : PE X c (fun _ _ _ => False) := ⟨fun _ _ _ _ _ _ h => h.elim⟩
    refine PT_imp (pt_chain (op_cmpI hf) (op_cmpI hg) ha hb hc' hm) fun σ H Q ⟨C, F, se, qq⟩ => ⟨C, F, se, fun v F1 H1 x1 e1 r1 => ⟨C, F1, e1, fun u F2 H2 x2 e2 r2 => ⟨i, j, rp_int r1, rp_int r2, false, congrArg V.bl q, ?_⟩⟩⟩
    rw [if_neg Bool.false_ne_true]
    exact ⟨_, rfl, qq F2 H2 (x1.trans x2) e2⟩

/-! ### lists -/
theorem pd_len {src : Option Nat} (hm : X.mg ("len" : Str) = none) (h : PQ X a ρ src xs ρ1) (ok : SrcOk ρ1 src xs) (hg : Gl X "len" := by rfl) (he : starEach [a] X.env = (false, eval a X.env) :: starEach [] X.env := by rfl) : PD X (.Call (.Name "len" p) [a] [] pos) ρ (.int (xs.length : Int)) ρ1 :=
  PE_imp (pe_callB call_len hg hm rfl (pa_cons h pa_nil he) (by decide) (by decide) he) fun σ H Q ⟨C, F, se, q⟩ => ⟨C, F, se, fun v F1 H1 x1 e1 r1 => by
    obtain ⟨a, vs, rfl, l, rr⟩ := r1.look e1 ok
    exact ⟨_, _, rfl, .inl ⟨vs, l, rfl⟩, q _ F1 H1 x1 e1 (by rw [rr.length]; exact .int _)⟩⟩
theorem pd_lenT (hm : X.mg ("len" : Str) = none) (h : PD X a ρ (.tuple xs) ρ1) (hg : Gl X "len" := by rfl) (he : starEach [a] X.env = (false, eval a X.env) :: starEach [] X.env := by rfl) : PD X (.Call (.Name "len" p) [a] [] pos) ρ (.int (xs.length : Int)) ρ1 :=
  pd_bi call_len (fun F H vs Q e r q => by
    obtain ⟨v, rfl, h⟩ := rpa_one r
    cases h with
    | tup h1 h2 => exact ⟨_, _, rfl, .inr ⟨_, SqT.of (e _ _ h1), rfl⟩, q _ F H (.refl e) (by rw [h2.length]; exact .int _)⟩) (ad_one h he) hm rfl hg (by decide) (by decide) he
theorem pd_lenS (hl : s.length ≤ sizeLine) (hm : X.mg ("len" : Str) = none) (h : PD X a ρ (.str s) ρ1) (hg : Gl X "len" := by rfl) (he : starEach [a] X.env = (false, eval a X.env) :: starEach [] X.env := by rfl) : PD X (.Call (.Name "len" p) [a] [] pos) ρ (.int (s.length : Int)) ρ1 :=
  pd_bi call_len (fun F H vs Q e r q => by
    obtain ⟨v, rfl, h⟩ := rpa_one r
    rw [rp_str h]
    exact ⟨_, _, rfl, ⟨hl, rfl⟩, q _ F H (.refl e) (.int _)⟩) (ad_one h he) hm rfl hg (by decide) (by decide) he
theorem pn_list {src : Option Nat} (hm : X.mg ("list" : Str) = none) (h : PQ X a ρ src xs ρ1) (ok : SrcOk ρ1 src xs) (hg : Gl X "list" := by rfl) (he : starEach [a] X.env = (false, eval a X.env) :: starEach [] X.env := by rfl) : PN X (.Call (.Name "list" p) [a] [] pos) ρ (.l xs) ρ1 :=
  PE_imp (pe_callTy call_list_of hg hm rfl (pa_cons h pa_nil he) (by decide) (by decide) he) fun σ H Q ⟨C, F, se, q⟩ => ⟨C, F, se, fun v F1 H1 x1 e1 r1 => by
    obtain ⟨a, vs, rfl, l, rr⟩ := r1.look e1 ok
    refine ⟨a, vs, rfl, .inl l, fun p hp => ?_⟩
    obtain ⟨h1, h2, h3, h4⟩ := e1.lay (o := .lst vs) hp
    exact q p F1 _ x1 h1 h2 h3 h4 ⟨vs, upd_same, rr⟩⟩
theorem pn_listT (hm : X.mg ("list" : Str) = none) (h : PD X a ρ (.tuple xs) ρ1) (hg : Gl X "list" := by rfl) (he : starEach [a] X.env = (false, eval a X.env) :: starEach [] X.env := by rfl) : PN X (.Call (.Name "list" p) [a] [] pos) ρ (.l xs) ρ1 :=
  PE_imp (pe_callTy call_list_of hg hm rfl (pa_cons h pa_nil he) (by decide) (by decide) he) fun σ H Q ⟨C, F, se, q⟩ => ⟨C, F, se, fun v F1 H1 x1 e1 r1 => by
    cases r1 with
    | @tup a vs _ l rr =>
      refine ⟨a, vs, rfl, .inr (SqT.of (e1.fr.ext _ _ l)), fun p hp => ?_⟩
      obtain ⟨h1, h2, h3, h4⟩ := e1.lay (o := .lst vs) hp
      exact q p F1 _ x1 h1 h2 h3 h4 ⟨vs, upd_same, rr⟩⟩
theorem pd_tuple {src : Option Nat} (hm : X.mg ("tuple" : Str) = none) (h : PQ X a ρ src xs ρ1) (ok : SrcOk ρ1 src xs) (hg : Gl X "tuple" := by rfl) (he : starEach [a] X.env = (false, eval a X.env) :: starEach [] X.env := by rfl) : PD X (.Call (.Name "tuple" p) [a] [] pos) ρ (.tuple xs) ρ1 :=
  PE_imp (pe_callTy call_tuple_of hg hm rfl (pa_cons h pa_nil he) (by decide) (by decide) he) fun σ H Q ⟨C, F, se, q⟩ => ⟨C, F, se, fun v F1 H1 x1 e1 r1 => by
    obtain ⟨a, vs, rfl, l, rr⟩ := r1.look e1 ok
    refine ⟨a, vs, rfl, .inl ⟨l, fun p hp => ?_⟩⟩
    exact q (.ref p) _ _ (x1.trans (.new (e1.fr.ext.none hp))) (e1.grow (.push e1.fr.ext hp)) (.tup upd_same (rr.mono (.new (e1.fr.ext.none hp))))⟩
/-- of ints: their greatest, their least -/
def lmax (ns : List Int) : Int := match ns with | [] => 0 | n :: r => r.foldl max n
def lmin (ns : List Int) : Int := match ns with | [] => 0 | n :: r => r.foldl min n
theorem fmax_le : ∀ (r : List Int) (n : Int), n ≤ r.foldl max n ∧ (∀ y ∈ r, y ≤ r.foldl max n) ∧ (r.foldl max n = n ∨ r.foldl max n ∈ r)
  | [], n => ⟨Int.le_refl _, (fun y hy => nomatch hy), .inl rfl⟩
  | m :: r, n => by
    obtain ⟨h1, h2, h3⟩ := fmax_le r (max n m)
    refine ⟨?_, fun y hy => ?_, ?_⟩
    · show n ≤ r.foldl max (max n m); omega
    · show y ≤ r.foldl max (max n m)
      rcases List.mem_cons.mp hy with z | z
      · omega
      · exact h2 y z
    · show r.foldl max (max n m) = n ∨ r.foldl max (max n m) ∈ m :: r
      rcases h3 with z | z
      · rw [z]
        by_cases q : n ≤ m
        · exact .inr (by rw [show max n m = m by omega]; exact List.mem_cons_self)
        · exact .inl (by omega)
      · exact .inr (List.mem_cons_of_mem _ z)
theorem fmin_le : ∀ (r : List Int) (n : Int), r.foldl min n ≤ n ∧ (∀ y ∈ r, r.foldl min n ≤ y) ∧ (r.foldl min n = n ∨ r.foldl min n ∈ r)
  | [], n => ⟨Int.le_refl _, (fun y hy => nomatch hy), .inl rfl⟩
  | m :: r, n => by
    obtain ⟨h1, h2, h3⟩ := fmin_le r (min n m)
    refine ⟨?_, fun y hy => ?_, ?_⟩
    · show r.foldl min (min n m) ≤ n; omega
    · show r.foldl min (min n m) ≤ y
      rcases List.mem_cons.mp hy with z | z
      · omega
      · exact h2 y z
    · show r.foldl min (min n m) = n ∨ r.foldl min (min n m) ∈ m :: r
      rcases h3 with z | z
      · rw [z]
        by_cases q : m ≤ n
        · exact .inr (by rw [show min n m = m by omega]; exact List.mem_cons_self)
        · exact .inl (by omega)
      · exact .inr (List.mem_cons_of_mem _ z)
theorem lmax_mem {ns : List Int} (h : 0 < ns.length) : lmax ns ∈ ns := by
  cases ns with
  | nil => simp at h
  | cons n r =>
    rcases (fmax_le r n).2.2 with z | z
    · show r.foldl max n ∈ n :: r
      rw [z]; exact List.mem_cons_self
    · exact List.mem_cons_of_mem _ z
theorem lmax_le {ns : List Int} : ∀ y ∈ ns, y ≤ lmax ns := by
  cases ns with
  | nil => intro y h; cases h
  | cons n r =>
    intro y h
    rcases List.mem_cons.mp h with z | z
    · rw [z]; exact (fmax_le r n).1
    · exact (fmax_le r n).2.1 y z
theorem lmin_mem {ns : List Int} (h : 0 < ns.length) : lmin ns ∈ ns := by
  cases ns with
  | nil => simp at h
  | cons n r =>
    rcases (fmin_le r n).2.2 with z | z
    · show r.foldl min n ∈ n :: r
      rw [z]; exact List.mem_cons_self
    · exact List.mem_cons_of_mem _ z
theorem lmin_le {ns : List Int} : ∀ y ∈ ns, lmin ns ≤ y := by
  cases ns with
  | nil => intro y h; cases h
  | cons n r =>
    intro y h
    rcases List.mem_cons.mp h with z | z
    · rw [z]; exact (fmin_le r n).1
    · exact (fmin_le r n).2.1 y z
theorem pd_sum {ns : List Int} {src : Option Nat} (hc : X.calm = true) (hm : X.mg ("sum" : Str) = none) (h : PQ X a ρ src (ns.map .int) ρ1) (ok : SrcOk ρ1 src (ns.map .int)) (hg : Gl X "sum" := by rfl) (he : starEach [a] X.env = (false, eval a X.env) :: starEach [] X.env := by rfl) : PD X (.Call (.Name "sum" p) [a] [] pos) ρ (.int ns.sum) ρ1 :=
  PE_imp (pe_callB (cr_sum hc) hg hm rfl (pa_cons h pa_nil he) (by decide) (by decide) he) fun σ H Q ⟨C, F, se, q⟩ => ⟨C, F, se, fun v F1 H1 x1 e1 r1 => by
    obtain ⟨a, vs, rfl, l, rr⟩ := r1.look e1 ok
    rw [rr.ints_inv] at l
    exact ⟨_, ns, rfl, l, q _ F1 H1 x1 e1 (.int _)⟩⟩
theorem pd_maxL {ns : List Int} {src : Option Nat} (hc : X.calm = true) (hm : X.mg ("max" : Str) = none) (hn : 0 < ns.length) (h : PQ X a ρ src (ns.map .int) ρ1) (ok : SrcOk ρ1 src (ns.map .int)) (hg : Gl X "max" := by rfl) (he : starEach [a] X.env = (false, eval a X.env) :: starEach [] X.env := by rfl) : PD X (.Call (.Name "max" p) [a] [] pos) ρ (.int (lmax ns)) ρ1 :=
  PE_imp (pe_callB (cr_max hc) hg hm rfl (pa_cons h pa_nil he) (by decide) (by decide) he) fun σ H Q ⟨C, F, se, q⟩ => ⟨C, F, se, fun v F1 H1 x1 e1 r1 => by
    obtain ⟨a, vs, rfl, l, rr⟩ := r1.look e1 ok
    rw [rr.ints_inv] at l
    refine ⟨_, ns, rfl, l, hn, fun m m1 m2 => q _ F1 H1 x1 e1 ?_⟩
    have := m2 _ (lmax_mem hn)
    have := lmax_le m m1
    rw [show lmax ns = m by omega]
    exact .int _⟩
theorem pd_minL {ns : List Int} {src : Option Nat} (hc : X.calm = true) (hm : X.mg ("min" : Str) = none) (hn : 0 < ns.length) (h : PQ X a ρ src (ns.map .int) ρ1) (ok : SrcOk ρ1 src (ns.map .int)) (hg : Gl X "min" := by rfl) (he : starEach [a] X.env = (false, eval a X.env) :: starEach [] X.env := by rfl) : PD X (.Call (.Name "min" p) [a] [] pos) ρ (.int (lmin ns)) ρ1 :=
  PE_imp (pe_callB (cr_min hc) hg hm rfl (pa_cons h pa_nil he) (by decide) (by decide) he) fun σ H Q ⟨C, F, se, q⟩ => ⟨C, F, se, fun v F1 H1 x1 e1 r1 => by
    obtain ⟨a, vs, rfl, l, rr⟩ := r1.look e1 ok
    rw [rr.ints_inv] at l
    refine ⟨_, ns, rfl, l, hn, fun m m1 m2 => q _ F1 H1 x1 e1 ?_⟩
    have := m2 _ (lmin_mem hn)
    have := lmin_le m m1
    rw [show lmin ns = m by omega]
    exact .int _⟩
theorem pd_any {bs : List Bool} {src : Option Nat} (hc : X.calm = true) (hm : X.mg ("any" : Str) = none) (h : PQ X a ρ src (bs.map .bool) ρ1) (ok : SrcOk ρ1 src (bs.map .bool)) (hg : Gl X "any" := by rfl) (he : starEach [a] X.env = (false, eval a X.env) :: starEach [] X.env := by rfl) : PD X (.Call (.Name "any" p) [a] [] pos) ρ (.bool (bs.any fun b => b)) ρ1 :=
  PE_imp (pe_callB (cr_any hc) hg hm rfl (pa_cons h pa_nil he) (by decide) (by decide) he) fun σ H Q ⟨C, F, se, q⟩ => ⟨C, F, se, fun v F1 H1 x1 e1 r1 => by
    obtain ⟨a, vs, rfl, l, rr⟩ := r1.look e1 ok
    rw [rr.bls_inv] at l
    exact ⟨_, bs, rfl, l, q _ F1 H1 x1 e1 (.bl _)⟩⟩
theorem pd_all {bs : List Bool} {src : Option Nat} (hc : X.calm = true) (hm : X.mg ("all" : Str) = none) (h : PQ X a ρ src (bs.map .bool) ρ1) (ok : SrcOk ρ1 src (bs.map .bool)) (hg : Gl X "all" := by rfl) (he : starEach [a] X.env = (false, eval a X.env) :: starEach [] X.env := by rfl) : PD X (.Call (.Name "all" p) [a] [] pos) ρ (.bool (bs.all fun b => b)) ρ1 :=
  PE_imp (pe_callB (cr_all hc) hg hm rfl (pa_cons h pa_nil he) (by decide) (by decide) he) fun σ H Q ⟨C, F, se, q⟩ => ⟨C, F, se, fun v F1 H1 x1 e1 r1 => by
    obtain ⟨a, vs, rfl, l, rr⟩ := r1.look e1 ok
    rw [rr.bls_inv] at l
    exact ⟨_, bs, rfl, l, q _ F1 H1 x1 e1 (.bl _)⟩⟩
/-- list + list, wherever they stand -/
def rCatL (K : PySem.W.Frag) : R2 := fun x y H Q => ∃ l b xs zs, x = .ref l ∧ y = .ref b ∧ SqL K H l xs ∧ SqL K H b zs ∧ xs.length + zs.length ≤ sizeLine ∧ ∀ p, H p = none → Q (.ref p) (upd H p (.lst (xs ++ zs)))
theorem op_catL : OpR X (binaryOp .Add) (rCatL X.K) := by
  intro pins s σ H x y v u Q I rx ry h
  obtain ⟨l, b, xs, zs, rfl, rfl, hH, hB, hz, q⟩ := h
  cases rx
  cases ry
  obtain ⟨its, r, hl, _⟩ := I.list hH
  obtain ⟨its2, r2, hb, _⟩ := I.list hB
  obtain ⟨⟨cls, dd, data, sl⟩, ho, hc, n, hd⟩ := id hl.isList
  obtain ⟨⟨cls2, dd2, data2, sl2⟩, ho2, hc2, n2, hd2⟩ := id hb.isList
  simp only at hc hd hc2 hd2
  subst hc hd hc2 hd2
  have e : its.toArray ++ its2.toArray = (its ++ its2).toArray := by simp
  have l1 := r.length
  have l2 := r2.length
  refine concat_meets ⟨_, ho, rfl⟩ ⟨_, ho2, rfl⟩ noFill_list_add seq_list_add PySem.F.slot_list_add PySem.F.entry_list_add (PySem.F.args_list_add_2 _ _) (list_addW l b its.toArray its2.toArray n n2 dd dd2 sl sl2 (by rw [List.size_toArray, List.size_toArray]; omega)) ⟨ho, ho2, ?_⟩
  rw [e]
  exact ⟨.ref _, _, I.lnew (t' := s.toks) (r.append r2) (by rw [List.length_append]; omega), rfl, q _ I.fresh⟩
theorem pn_cat {sa sb : Option Nat} (ha : PQ X a ρ sa xs ρ1) (oa : SrcOk ρ2 sa xs) (hb : PQ X b ρ1 sb ys ρ2) (ob : SrcOk ρ2 sb ys) (hl : xs.length + ys.length ≤ 100000) : PN X (.BinOp a .Add b pos) ρ (.l (xs ++ ys)) ρ2 :=
  PE_imp (pe_op op_catL ha hb) fun σ H Q ⟨C, F, se, q⟩ => ⟨C, F, se, fun v F1 H1 x1 e1 r1 => ⟨C, F1, e1, fun w F2 H2 x2 e2 r2 => by
    obtain ⟨a, vs, rfl, l1, rr1⟩ := (r1.mono x2).look e2 oa
    obtain ⟨b, ws, rfl, l2, rr2⟩ := r2.look e2 ob
    refine ⟨a, b, vs, ws, rfl, rfl, l1, l2, by rw [rr1.length, rr2.length]; exact line_of hl, fun p hp => ?_⟩
    obtain ⟨h1, h2, h3, h4⟩ := e2.lay (o := .lst (vs ++ ws)) hp
    exact q p F2 _ (x1.trans x2) h1 h2 h3 h4 ⟨vs ++ ws, upd_same, rr1.append rr2⟩⟩⟩
/-- xs[lo:hi] -/
def cutD (xs : List PyData) (lo hi : Option Int) : List PyData := (xs.drop (HT.sIx xs.length 0 lo)).take (HT.sIx xs.length xs.length hi - HT.sIx xs.length 0 lo)
abbrev OD (X : Cx) (e : Option Expr) (ρ : En) (o : Option Int) (ρ' : En) : Prop := PO X e (fun σ H Q => ∃ C F, SE X.K C F H σ ρ ∧ ∀ F' H', Ex F F' → SE X.K C F' H' σ ρ' → Q o H')
theorem PO_imp {o : Option Expr} {t t' : TO} (h : PO X o t) (i : ∀ σ H Q, t' σ H Q → t σ H Q) : PO X o t' := ⟨fun pins s σ H Q I q => h.run pins s σ H Q I (i _ _ _ q)⟩
theorem od_none : OD X none ρ none ρ := PO_imp po_none fun σ H Q ⟨C, F, se, q⟩ => q F H (.refl _) se
theorem od_some (h : PD X e ρ (.int i) ρ1) : OD X (some e) ρ (some i) ρ1 := PO_imp (po_some h) fun σ H Q ⟨C, F, se, q⟩ => ⟨C, F, se, fun v F1 H1 x1 e1 r1 => ⟨i, rp_int r1, q F1 H1 x1 e1⟩⟩
theorem pn_slice {src : Option Nat} {lo hi : Option Expr} {ol oh : Option Int} {p2 : Pos} (h : PQ X e ρ src xs ρ1) (hl : OD X lo ρ1 ol ρ2) (hh : OD X hi ρ2 oh ρ3) (ok : SrcOk ρ3 src xs) : PN X (.Subscript e (.Slice lo hi none p2) pos) ρ (.l (cutD xs ol oh)) ρ3 :=
  PE_imp (pe_slice sl_list h hl hh) fun σ H Q ⟨C, F, se, q⟩ => ⟨C, F, se, fun v F1 H1 x1 e1 r1 => ⟨C, F1, e1, fun F2 H2 x2 e2 => ⟨C, F2, e2, fun F3 H3 x3 e3 => by
    obtain ⟨a, vs, rfl, l, rr⟩ := (r1.mono (x2.trans x3)).look e3 ok
    refine ⟨a, vs, rfl, l, fun p hp => ?_⟩
    obtain ⟨h1, h2, h3, h4⟩ := e3.lay (o := .lst (cutV vs ol oh)) hp
    refine q p F3 _ (x1.trans (x2.trans x3)) h1 h2 h3 h4 ⟨_, upd_same, ?_⟩
    unfold cutV cutD
    rw [rr.length]
    exact (rr.drop _).take _⟩⟩⟩
/-! ### truth of values -/
theorem td_truthL {src : Option Nat} (h : PQ X a ρ src xs ρ1) (ok : SrcOk ρ1 src xs) (he : ∀ whole, isTrue a X.env whole = (do let v ← whole; standAt a.pos; holding [v] (truthy v)) := by intro _; rfl) : TD X a ρ (!xs.isEmpty) ρ1 :=
  PT_imp (pt_truth h he) fun σ H Q ⟨C, F, se, q⟩ => ⟨C, F, se, fun v F1 H1 x1 e1 r1 => by
    obtain ⟨a, vs, rfl, l, rr⟩ := r1.look e1 ok
    refine ⟨_, .inl ⟨vs, l, rfl⟩, ?_⟩
    rw [show vs.isEmpty = xs.isEmpty by cases rr <;> rfl]
    exact q F1 H1 x1 e1⟩
theorem td_truthI (h : PD X a ρ (.int i) ρ1) (he : ∀ whole, isTrue a X.env whole = (do let v ← whole; standAt a.pos; holding [v] (truthy v)) := by intro _; rfl) : TD X a ρ (i != 0) ρ1 :=
  PT_imp (pt_truth h he) fun σ H Q ⟨C, F, se, q⟩ => ⟨C, F, se, fun v F1 H1 x1 e1 r1 => by
    rw [rp_int r1]
    exact ⟨_, rfl, q F1 H1 x1 e1⟩⟩
theorem td_truthS (hl : s.length ≤ sizeLine) (h : PD X a ρ (.str s) ρ1) (he : ∀ whole, isTrue a X.env whole = (do let v ← whole; standAt a.pos; holding [v] (truthy v)) := by intro _; rfl) : TD X a ρ ((s.length : Int) != 0) ρ1 :=
  PT_imp (pt_truth h he) fun σ H Q ⟨C, F, se, q⟩ => ⟨C, F, se, fun v F1 H1 x1 e1 r1 => by
    rw [rp_str r1]
    exact ⟨_, ⟨hl, rfl⟩, q F1 H1 x1 e1⟩⟩
theorem td_truthT (h : PD X a ρ (.tuple xs) ρ1) (he : ∀ whole, isTrue a X.env whole = (do let v ← whole; standAt a.pos; holding [v] (truthy v)) := by intro _; rfl) : TD X a ρ (!xs.isEmpty) ρ1 :=
  PT_imp (pt_truth h he) fun σ H Q ⟨C, F, se, q⟩ => ⟨C, F, se, fun v F1 H1 x1 e1 r1 => by
    cases r1 with
    | @tup a vs _ h1 h2 =>
      refine ⟨_, .inr (.inl ⟨vs, SqT.of (e1.fr.ext _ _ h1), rfl⟩), ?_⟩
      rw [show vs.isEmpty = xs.isEmpty by cases h2 <;> rfl]
      exact q F1 H1 x1 e1⟩

/-! ### isinstance -/
def tyD : PyData → String
  | .none => "NoneType"
  | .bool _ => "bool"
  | .int _ => "int"
  | .str _ => "str"
  | .list _ => "list"
  | .tuple _ => "tuple"
  | .dict _ => "dict"
def isDct : PyData → Bool
  | .dict _ => true
  | _ => false
theorem tyx_of {K : PySem.W.Frag} {F H : Hp} {v : V} {x : PyData} (hd : isDct x = false) (e : Ex F H) (r : Rp K F v x) : TyX K H v (.type (tyD x)) := by
  cases r with
  | non => exact .base .non
  | bl b => exact .base (.bl b)
  | int b => exact .base (.int b)
  | str b => exact .base (.str b)
  | lst h _ =>
    rcases h with h | ⟨o, its, n, hk, hc, _⟩
    · rcases h with h | ⟨o, h⟩
      · exact .base (.lst (e _ _ h))
      · exact .base (.frz (e _ _ h))
    · exact .kList hk hc
  | tup h _ => exact .base (.tup (e _ _ h))
  | dK h _ => cases hd
  | dT h _ _ => cases hd
theorem pe_cls {n : Str} {T : String} (hm : X.mg n = none) (hv : bootBuiltins n = some (.type T)) (hg : Gl X n := by rfl) (hn : n ≠ "__name__" := by decide) (hdb : (n == ("__debug__" : Str)) = false := by decide) : PE X (.Name n pos) (tC (.ty T)) := pe_bltn hg hm hv rfl hn hdb
theorem pd_isi {k : Bool} (hd : isDct x = false) (hk : kitB (tyD x) T = some k) (hm : X.mg ("isinstance" : Str) = none) (hc : PE X c (tC (.ty T))) (ha : PD X a ρ x ρ1) (hg : Gl X "isinstance" := by rfl) (he : starEach [a, c] X.env = (false, eval a X.env) :: starEach [c] X.env := by rfl) (he2 : starEach [c] X.env = (false, eval c X.env) :: starEach [] X.env := by rfl)
    (hpl : (backTo pos (starEach [c] X.env)).any (·.1) = false := by rfl) : PD X (.Call (.Name "isinstance" p) [a, c] [] pos) ρ (.bool k) ρ1 :=
  PE_imp (pe_callB call_isi hg hm rfl (pa_cons ha (pa_cons hc pa_nil he2) he) (by decide) (by decide) he hpl) fun σ H Q ⟨C, F, se, q⟩ => ⟨C, F, se, fun v F1 H1 x1 e1 r1 =>
    ⟨v, .ty T, .type (tyD x), .type T, k, rfl, .ty T, tyx_of hd e1.fr.ext r1, kit_ty hk, q _ F1 H1 x1 e1 (.bl _)⟩⟩
/-- isinstance(x, (T, U)) -/
theorem pd_isi2 {d : Expr} {U : String} {k1 k2 : Bool} {x1 : _} (hd : isDct x = false) (hk : kitB (tyD x) T = some k1) (hk2 : kitB (tyD x) U = some k2) (hm : X.mg ("isinstance" : Str) = none) (hc : PE X c (tC (.ty T))) (hc2 : PE X d (tC (.ty U))) (ha : PD X a ρ x ρ1) (hg : Gl X "isinstance" := by rfl)
    (he : starEach [a, .Tuple [c, d] x1 pos'] X.env = (false, eval a X.env) :: starEach [.Tuple [c, d] x1 pos'] X.env := by rfl) (he2 : starEach [.Tuple [c, d] x1 pos'] X.env = (false, eval (.Tuple [c, d] x1 pos') X.env) :: starEach [] X.env := by rfl)
    (hs : starEach [c, d] X.env = (false, eval c X.env) :: starEach [d] X.env := by rfl) (hs2 : starEach [d] X.env = (false, eval d X.env) :: starEach [] X.env := by rfl)
    (hpl : (backTo pos (starEach [.Tuple [c, d] x1 pos'] X.env)).any (·.1) = false := by rfl) : PD X (.Call (.Name "isinstance" p) [a, .Tuple [c, d] x1 pos'] [] pos) ρ (.bool (k1 || k2)) ρ1 := by
  refine PE_imp (pe_callB call_isiT hg hm rfl (pa_cons ha (pa_cons (pe_tup (pa_cons hc (pa_cons hc2 pa_nil hs2) hs)) pa_nil he2) he) (by decide) (by decide) he hpl) fun σ H Q ⟨C, F, se, q⟩ => ⟨C, F, se, fun v F1 H1 x1 e1 r1 => ⟨line_of (show 2 ≤ 100000 by decide), fun tp hp => ?_⟩⟩
  refine ⟨v, tp, [.ty T, .ty U], .type (tyD x), [.type T, .type U], k1 || k2, rfl, upd_same, .cons (.ty T) (.cons (.ty U) .nil), ?_, ?_, ?_⟩
  · exact tyx_of hd (e1.fr.ext.trans (.new hp)) r1
  · refine kitAny_cons (kit_ty hk) (fun z => ?_) (fun z => by rw [z]; rfl)
    subst z
    refine kitAny_cons (kit_ty hk2) (fun z => ?_) (fun z => by rw [z]; rfl)
    subst z
    exact kitAny_nil
  · exact q _ F1 _ x1 (e1.lay hp).1 (.bl _)
end
end G

/-! GHead: a law's own call. -/
namespace G
open PySem PySem.Spec PyProof.Rows L2
theorem fn_shut {P : Program} {w : World} {K : PySem.W.Frag} {mg : Str → Option Value} {base : Heap} {k : Nat} {f : Addr} {fd : FuncData} {ps : List Str} {sp : Sp} (F : FnOk P w K mg base (L2N.CX P w) k f fd ps sp) : FnOk P w K mg base CX0 k f fd ps (fun vs H Q _ => sp vs H Q E0) := by
  refine ⟨fun vs H Q E h => F.len vs H Q E0 h, fun A outer s H args us vs Q E hr he hb hv hs => codeAny_mono (F.run A outer s H args us vs Q E0 hr he hb hv hs) fun r s' hq => ?_⟩
  cases r with
  | error e =>
    obtain ⟨_, _, _, _, _, _, _, _, _, _, _, _, z⟩ := hq
    exact z.elim
  | ok fl => cases fl <;> exact hq
/-- what is asked of a law's def: true of every script -/
def LawS (ds : List PyData) (r : Res) : Prop := ∃ ns : List Int, ds = [.list (ns.map .int)] ∧ ns.length ≤ 63 ∧ r = .ret (.bool true)
theorem law_end {K : PySem.W.Frag} (H : Hp) (a : Addr) (ns : List Int) (hl : ns.length ≤ 63) (hS : SqL K H a (ns.map V.int)) : spD K LawS [.ref a] H (fun v _ => v = .bl true) E0 :=
  ⟨H, [.list (ns.map .int)], .ret (.bool true), .refl H, .cons (.lst hS (.ints ns)) .nil, ⟨ns, rfl, hl, rfl⟩, fun v F' H' g r => rp_bool r⟩
end G

/-! GTyped: the rules over typed data. -/
namespace G
open PySem PySem.Spec PyProof.Rows L2

/-! ### typed data -/
abbrev dL {α : Type} (f : α → PyData) (xs : List α) : PyData := .list (xs.map f)
abbrev dT2 {α β : Type} (f : α → PyData) (g : β → PyData) (p : α × β) : PyData := .tuple [f p.1, g p.2]
abbrev dT3 {α β γ : Type} (f : α → PyData) (g : β → PyData) (h : γ → PyData) (p : α × β × γ) : PyData := .tuple [f p.1, g p.2.1, h p.2.2]
abbrev dT4 {α β γ δ : Type} (f : α → PyData) (g : β → PyData) (h : γ → PyData) (j : δ → PyData) (p : α × β × γ × δ) : PyData := .tuple [f p.1, g p.2.1, h p.2.2.1, j p.2.2.2]
def dO {α : Type} (f : α → PyData) : Option α → PyData
  | none => .none
  | some a => f a
/-- xs[i] -/
def gI {α : Type} [Inhabited α] (xs : List α) (i : Int) : α := if i < 0 then xs[(i + xs.length).toNat]! else xs[i.toNat]!
theorem gI_nat {α : Type} [Inhabited α] {xs : List α} {n : Nat} : gI xs (n : Int) = xs[n]! := by
  unfold gI
  rw [if_neg (by omega), Int.toNat_natCast]
theorem gI_at {α : Type} [Inhabited α] {f : α → PyData} {xs : List α} {i : Int} (h : -(xs.length : Int) ≤ i ∧ i < xs.length) : atI (xs.map f) i = some (f (gI xs i)) := by
  have key : ∀ n : Nat, n < xs.length → (xs.map f)[n]? = some (f xs[n]!) := fun n hn => by
    rw [List.getElem?_map, List.getElem?_eq_getElem hn, getElem!_pos xs n hn]; rfl
  unfold atI ixN gI
  rw [List.length_map]
  by_cases q : 0 ≤ i
  · rw [if_pos q, if_pos h.2, if_neg (by omega)]
    exact key _ (by omega)
  · rw [if_neg q, if_pos h.1, if_pos (by omega)]
    exact key _ (by omega)
theorem gI_mem {α : Type} [Inhabited α] {xs : List α} {i : Int} (h : -(xs.length : Int) ≤ i ∧ i < xs.length) : gI xs i ∈ xs := by
  have key : ∀ n : Nat, n < xs.length → xs[n]! ∈ xs := fun n hn => by
    rw [getElem!_pos xs n hn]; exact List.getElem_mem hn
  unfold gI
  by_cases q : 0 ≤ i
  · rw [if_neg (by omega)]; exact key _ (by omega)
  · rw [if_pos (by omega)]; exact key _ (by omega)
section
variable {X : Cx} {W : WX} {e a b c tg iter elt : Expr} {es : List Expr} {p pos pos' : Pos} {ρ ρ' ρ1 ρ2 ρ3 ρA ρB : En} {x y z : PyData} {st : Stmt} {rest A B body : List Stmt} {D : DE} {k k' : Bool} {i j : Int} {w : Str} {α β γ S R : Type} {f : α → PyData} {ns ms : List α}
theorem pd_cast (h : x = y) (hp : PD X e ρ x ρ') : PD X e ρ y ρ' := h ▸ hp
theorem td_cast (h : k = k') (hp : TD X e ρ k ρ') : TD X e ρ k' ρ' := h ▸ hp
theorem pn_cast {ct ct' : Ct} (h : ct = ct') (hp : PN X e ρ ct ρ') : PN X e ρ ct' ρ' := h ▸ hp
theorem pd_env (h : ρ1 = ρ2) (hp : PD X e ρ x ρ1) : PD X e ρ x ρ2 := h ▸ hp
theorem pd_gix [Inhabited α] {src : Option Nat} (h : -(ns.length : Int) ≤ i ∧ i < ns.length) (ok : SrcOk ρ2 src (ns.map f)) (ha : PQ X a ρ src (ns.map f) ρ1) (hb : PD X b ρ1 (.int i) ρ2) (hs : PlainIx b := by intro _ _; rfl) : PD X (.Subscript a b pos) ρ (f (gI ns i)) ρ2 := pd_ixL (gI_at h) ok ha hb hs
theorem pd_ift (f : α → PyData) (u v : α) (hc : TD X c ρ k ρ1) (ha : k = true → PD X a ρ1 (f u) ρ2) (hb : k = false → PD X b ρ1 (f v) ρ2) : PD X (.IfExp c a b pos) ρ (f (if k = true then u else v)) ρ2 := by
  have h := pd_if (pos := pos) hc ha hb
  cases k <;> exact h
theorem pn_catM {sa sb : Option Nat} (ha : PQ X a ρ sa (ns.map f) ρ1) (oa : SrcOk ρ2 sa (ns.map f)) (hb : PQ X b ρ1 sb (ms.map f) ρ2) (ob : SrcOk ρ2 sb (ms.map f)) (hl : ns.length + ms.length ≤ 100000) : PN X (.BinOp a .Add b pos) ρ (.l ((ns ++ ms).map f)) ρ2 := by
  rw [List.map_append]
  exact pn_cat ha oa hb ob (by rw [List.length_map, List.length_map]; exact hl)
/-- xs[lo:hi] -/
def cutG (xs : List α) (lo hi : Option Int) : List α := (xs.drop (HT.sIx xs.length 0 lo)).take (HT.sIx xs.length xs.length hi - HT.sIx xs.length 0 lo)
theorem pn_sliceM {src : Option Nat} {lo hi : Option Expr} {ol oh : Option Int} {p2 : Pos} (h : PQ X e ρ src (ns.map f) ρ1) (hl : OD X lo ρ1 ol ρ2) (hh : OD X hi ρ2 oh ρ3) (ok : SrcOk ρ3 src (ns.map f)) : PN X (.Subscript e (.Slice lo hi none p2) pos) ρ (.l ((cutG ns ol oh).map f)) ρ3 := by
  have := pn_slice (pos := pos) (p2 := p2) h hl hh ok
  unfold cutD at this
  rw [List.length_map, ← List.map_drop, ← List.map_take] at this
  exact this
theorem cutG_from (xs : List α) (n : Nat) (h : n ≤ xs.length) : cutG xs (some (n : Int)) none = xs.drop n := by
  unfold cutG
  rw [HT.sIx_nat, HT.sIx_none, Nat.min_eq_left h, List.take_of_length_le (by rw [List.length_drop]; omega)]
theorem cutG_to (xs : List α) (n : Nat) (h : n ≤ xs.length) : cutG xs none (some (n : Int)) = xs.take n := by
  unfold cutG
  rw [HT.sIx_nat, HT.sIx_none, Nat.min_eq_left h, List.drop_zero, Nat.sub_zero]
theorem cutG_mid (xs : List α) (m n : Nat) (h : m ≤ xs.length) (h2 : n ≤ xs.length) : cutG xs (some (m : Int)) (some (n : Int)) = (xs.drop m).take (n - m) := by
  unfold cutG
  rw [HT.sIx_nat, HT.sIx_nat, Nat.min_eq_left h, Nat.min_eq_left h2]
theorem sd_appendM {o : Str} {p1 p2 p3 : Pos} {pa pb : Option Addr} {ys : List PyData} {v : α} (i : Nat) (h0 : ρ[i]? = some (.o pa (.l ys))) (he : PD X e ρ (f v) ρ1) (h1 : ρ1[i]? = some (.o pb (.l (ns.map f)))) (hl : ns.length < 100000) (h : D.nx (ρ1.set i (.o pb (.l ((ns ++ [v]).map f)))))
    (hN : X.N[i]? = some o := by rfl) (hv : Vis X.env.scope o := by first | exact Or.inl rfl | exact Or.inr (Or.inl rfl) | exact Or.inr (Or.inr rfl)) (hd : (o == ("__debug__" : Str)) = false := by decide) (hcd : (o == ("__classdict__" : Str)) = false := by decide)
    (hbase : attributeBase (.Name o p1) "append" X.env (eval (.Name o p1) X.env) = eval (.Name o p1) X.env := by rfl)
    (hfew : ((backTo p3 (starEach [e] X.env)).all (fun x => !x.1) && (backToKw p3 (keywordEach [] X.env)).all (fun x => x.1.isSome)
      && decide ([e].length + ([] : List Keyword).length + (if ([] : List Keyword).isEmpty then 0 else 1) < 30)) = true := by rfl)
    (hline : (p2.endLine == p3.line) = true := by rfl) (hs : starEach [e] X.env = (false, eval e X.env) :: starEach [] X.env := by rfl)
    (hsw : swapsWith (.Call (.Attribute (.Name o p1) "append" p2) [e] [] p3) none pos.line X.env = pure false := by rfl) :
    SD X W (.Expr (.Call (.Attribute (.Name o p1) "append" p2) [e] [] p3) pos) ρ D := by
  refine sd_append i h0 he h1 (by rw [List.length_map]; exact hl) ?_ hN hv hd hcd hbase hfew hline hs hsw
  rw [List.map_append] at h
  exact h

/-! ### if, joined -/
/-- in each branch the same shape of slots -/
theorem bd_ite (ρM : En) (hc : TD X c ρ k ρ1) (ha : k = true → BD X W A ρ1 { D with nx := fun r => Le ρM r }) (hb : k = false → BD X W B ρ1 { D with nx := fun r => Le ρM r }) (hr : BD X W rest ρM D) : BD X W (.If c A B pos :: rest) ρ D :=
  bd_cut (fun r => Le ρM r) (sd_if hc ha hb) fun r l => bd_le l hr

/-! ### for, as a fold -/
theorem take_succ_of {xs : List α} {i : Nat} {a : α} (h : xs[i]? = some a) : xs.take (i + 1) = xs.take i ++ [a] := by
  rw [List.take_add_one, h]; rfl
theorem sd_forF (xs : List α) (td : α → PyData) (sh : S → En) (step : S → α → S) (s0 : S) (Pv : Nat → S → Prop) {ok : En → Prop} (hp : PassesOwn (model X.prog X.w) X.A X.env X.xe) (hc : X.calm = true) (hi : ID X tg iter ρ (xs.map td) ok none ρ1) (h0 : Le (sh s0) ρ1) (p0 : Pv 0 s0) (hok : ∀ s, ok (sh s))
    (hb : ∀ i s a, xs[i]? = some a → s = (xs.take i).foldl step s0 → Pv i s → ∃ ρ2, GD X tg (td a) (sh s) ρ2 ∧ BD X W body ρ2 { D with nx := fun r => Le (sh (step s a)) r ∧ Pv (i + 1) (step s a), ct := fun r => Le (sh (step s a)) r ∧ Pv (i + 1) (step s a), bk := D.nx })
    (hd : ∀ s, s = xs.foldl step s0 → Pv xs.length s → D.nx (sh s)) (hf : ∀ x, foldedSetIterable iter X.env x = pure x := by intro _; rfl) : SD X W (.For tg iter body [] pos) ρ D := by
  refine sd_for (fun i r => ∃ s, s = (xs.take i).foldl step s0 ∧ r = sh s ∧ Pv i s) hp hc hi ⟨_, h0, s0, by simp, rfl, p0⟩ (fun i r ⟨s, _, h, _⟩ => h ▸ hok s) ?_ ?_ hf
  · rintro i d r hd2 ⟨s, hs, rfl, pv⟩
    rw [List.getElem?_map] at hd2
    cases q : xs[i]? with
    | none => rw [q] at hd2; cases hd2
    | some a =>
      rw [q] at hd2; cases hd2
      obtain ⟨ρ2, g, bb⟩ := hb i s a q hs pv
      have nxt : ∀ r, Le (sh (step s a)) r ∧ Pv (i + 1) (step s a) → Lee (fun r => ∃ s, s = (xs.take (i + 1)).foldl step s0 ∧ r = sh s ∧ Pv (i + 1) s) r := fun r ⟨l, p⟩ => ⟨_, l, step s a, by rw [take_succ_of q, List.foldl_append, ← hs]; rfl, rfl, p⟩
      exact ⟨ρ2, g, bd_post { nx := nxt, ct := nxt } bb⟩
  · rintro r ⟨s, hs, rfl, pv⟩
    rw [List.length_map] at hs pv
    rw [List.take_length] at hs
    exact hd s hs pv
/-- the wishes within a loop that may give back, or raise, or break ahead of its end -/
def deE {α S R : Type} (D : DE) (xs : List α) (s0 : S) (step : S → α → Except R S) (s : S) (a : α) (nxt : En → Prop) : DE := { nx := nxt, ct := nxt, bk := fun r => ∃ q, step s a = .error q ∧ (xs.foldlM step s0 = .error q → D.nx r), rt := fun v r => ∃ q, step s a = .error q ∧ (xs.foldlM step s0 = .error q → D.rt v r), ex := fun v f r => ∃ q, step s a = .error q ∧ (xs.foldlM step s0 = .error q → D.ex v f r), rn := fun v r => ∃ q, step s a = .error q ∧ (xs.foldlM step s0 = .error q → D.rn v r), rq := fun v u r => ∃ q, step s a = .error q ∧ (xs.foldlM step s0 = .error q → D.rq v u r) }
theorem deE_le {α S R : Type} {D : DE} {xs : List α} {s0 : S} {step : S → α → Except R S} {s : S} {a : α} {nxt nxt' : En → Prop} (he : ∀ q, step s a = .error q → xs.foldlM step s0 = .error q) (hn : ∀ r, nxt r → nxt' r) : (deE D xs s0 step s a nxt).Le { D with nx := nxt', ct := nxt', bk := D.nx } :=
  { nx := hn, ct := hn, bk := fun r ⟨q', h1, h2⟩ => h2 (he q' h1), rt := fun v r ⟨q', h1, h2⟩ => h2 (he q' h1), ex := fun v f r ⟨q', h1, h2⟩ => h2 (he q' h1), rn := fun v r ⟨q', h1, h2⟩ => h2 (he q' h1), rq := fun v u r ⟨q', h1, h2⟩ => h2 (he q' h1) }
/-- .. that may give back, or raise, or break ahead of its end -/
theorem sd_forE (xs : List α) (td : α → PyData) (sh : S → En) (step : S → α → Except R S) (s0 : S) (Pv : Nat → S → Prop) {ok : En → Prop} (hp : PassesOwn (model X.prog X.w) X.A X.env X.xe) (hc : X.calm = true) (hi : ID X tg iter ρ (xs.map td) ok none ρ1) (h0 : Le (sh s0) ρ1) (p0 : Pv 0 s0) (hok : ∀ s, ok (sh s))
    (hb : ∀ i s a, xs[i]? = some a → (xs.take i).foldlM step s0 = .ok s → Pv i s → ∃ ρ2, GD X tg (td a) (sh s) ρ2 ∧ BD X W body ρ2 (deE D xs s0 step s a fun r => ∃ s', step s a = .ok s' ∧ Le (sh s') r ∧ Pv (i + 1) s'))
    (hd : ∀ s, xs.foldlM step s0 = .ok s → Pv xs.length s → D.nx (sh s)) (hf : ∀ x, foldedSetIterable iter X.env x = pure x := by intro _; rfl) : SD X W (.For tg iter body [] pos) ρ D := by
  have errs : ∀ (i : Nat) (s : S) (a : α) (q : R), xs[i]? = some a → (xs.take i).foldlM step s0 = .ok s → step s a = .error q → xs.foldlM step s0 = .error q := fun i s a q h1 h2 h3 => by
    have e : xs = xs.take i ++ a :: xs.drop (i + 1) := by
      have hlt : i < xs.length := by
        by_cases z : i < xs.length
        · exact z
        · rw [List.getElem?_eq_none (by omega)] at h1; cases h1
      rw [List.getElem?_eq_getElem hlt] at h1
      cases h1
      rw [← List.drop_eq_getElem_cons hlt, List.take_append_drop]
    rw [e, List.foldlM_append, h2]
    show (step s a >>= fun s' => (xs.drop (i + 1)).foldlM step s') = _
    rw [h3]; rfl
  refine sd_for (fun i r => ∃ s, (xs.take i).foldlM step s0 = .ok s ∧ r = sh s ∧ Pv i s) hp hc hi ⟨_, h0, s0, by simp; rfl, rfl, p0⟩ (fun i r ⟨s, _, h, _⟩ => h ▸ hok s) ?_ ?_ hf
  · rintro i d r hd2 ⟨s, hs, rfl, pv⟩
    rw [List.getElem?_map] at hd2
    cases q : xs[i]? with
    | none => rw [q] at hd2; cases hd2
    | some a =>
      rw [q] at hd2; cases hd2
      obtain ⟨ρ2, g, bb⟩ := hb i s a q hs pv
      have nxt : ∀ r, (∃ s', step s a = .ok s' ∧ Le (sh s') r ∧ Pv (i + 1) s') → Lee (fun r => ∃ s, (xs.take (i + 1)).foldlM step s0 = .ok s ∧ r = sh s ∧ Pv (i + 1) s) r := fun r ⟨s', h, l, p⟩ => ⟨_, l, s', by
        rw [take_succ_of q, List.foldlM_append, hs]
        show (step s a >>= fun s' => pure s') = _
        rw [h]; rfl, rfl, p⟩
      exact ⟨ρ2, g, bd_post (deE_le (fun q' h1 => errs i s a q' q hs h1) nxt) bb⟩
  · rintro r ⟨s, hs, rfl, pv⟩
    rw [List.length_map] at hs pv
    rw [List.take_length] at hs
    exact hd s hs pv

theorem tsd_nil_of {Y : Cx} {scope : Scope} (h : IsBlk X scope Y) : PTs Y [] (tT X.K ρ true ρ) := by
  obtain ⟨s, H, C, cl, fp, rfl⟩ := h
  exact tsd_nil
/-! ### comprehensions -/
/-- X in the block: what is of use there -/
theorem lcM (xs : List α) (td : α → PyData) (fd : β → PyData) (keep : α → Bool) (val : α → β) {scope : Scope} {own : List (Str × Nat)} {ifs : List Expr} {src : Option Nat} {ok : En → Prop} (hb : BlkOk X.N X.env.scope scope own) (hi : ID X tg iter ρ (xs.map td) ok src ρ1) (hlen : xs.length < 100000) (hsrc : ∀ j, src = some j → j ∉ own.map (·.2)) (hok : ok (wipeE ρ1 (own.map (·.2))))
    (hT : ∀ a, a ∈ xs → ∃ ρt ρe, (∀ Y, IsBlk X scope Y → GV Y (own.map (·.2)) tg (td a) (wipeE ρ1 (own.map (·.2))) ρt) ∧ (∀ Y, IsBlk X scope Y → PTs Y ifs (tT X.K ρt (keep a) ρt)) ∧ (∀ Y, IsBlk X scope Y → keep a = true → PE Y elt (tP X.K ρt (fd (val a)) ρe)) ∧ Le (wipeE ρ1 (own.map (·.2))) ρt ∧ Le (wipeE ρ1 (own.map (·.2))) ρe): LcOk X elt tg iter ifs scope ρ (.l (((xs.filter keep).map val).map fd)) (restE ρ1 ρ1 (own.map (·.2))) := by
  have cho : ∀ p : { a // a ∈ xs }, ∃ q : En × En, (∀ Y, IsBlk X scope Y → GV Y (own.map (·.2)) tg (td p.1) (wipeE ρ1 (own.map (·.2))) q.1) ∧ (∀ Y, IsBlk X scope Y → PTs Y ifs (tT X.K q.1 (keep p.1) q.1)) ∧ (∀ Y, IsBlk X scope Y → keep p.1 = true → PE Y elt (tP X.K q.1 (fd (val p.1)) q.2)) ∧ Le (wipeE ρ1 (own.map (·.2))) q.1 ∧ Le (wipeE ρ1 (own.map (·.2))) q.2 := fun p => by
    obtain ⟨ρt, ρe, h⟩ := hT p.1 p.2
    exact ⟨(ρt, ρe), h⟩
  let T : Nat → Turn := fun i => if h : i < xs.length then
      let q := Classical.choose (cho ⟨xs[i], List.getElem_mem h⟩)
      ⟨q.1, q.1, keep xs[i], fd (val xs[i]), q.2⟩ else ⟨[], [], false, .none, []⟩
  have hT' : ∀ i d, (xs.map td)[i]? = some d → TurnOk X scope (own.map (·.2)) tg elt ifs d ρ1 ρ1 (T i) := fun i d hd => by
    have hlt : i < xs.length := by
      by_cases z : i < xs.length
      · exact z
      · rw [List.getElem?_eq_none (by rw [List.length_map]; omega)] at hd; cases hd
    rw [List.getElem?_map, List.getElem?_eq_getElem hlt] at hd
    cases hd
    have sp := Classical.choose_spec (cho ⟨xs[i], List.getElem_mem hlt⟩)
    have eT : T i = ⟨(Classical.choose (cho ⟨xs[i], List.getElem_mem hlt⟩)).1, (Classical.choose (cho ⟨xs[i], List.getElem_mem hlt⟩)).1, keep xs[i], fd (val xs[i]), (Classical.choose (cho ⟨xs[i], List.getElem_mem hlt⟩)).2⟩ := dif_pos hlt
    rw [eT]
    obtain ⟨s1, s2, s3, s4, s5⟩ := sp
    refine ⟨s1, s2, s3, ?_⟩
    dsimp only
    split
    · exact s5
    · exact s4
  have h := lc_ok (its := xs.map td) (fun _ => ρ1) T hb hi (wipeE_le _ _) hsrc (fun _ _ => hok) (by rw [List.length_map]; exact hlen) hT'
  have eo : ∀ n, n ≤ xs.length → outs T n = (((xs.take n).filter keep).map val).map fd := by
    intro n
    induction n with
    | zero => intro _; simp [outs]
    | succ n ih =>
      intro hn
      have hlt : n < xs.length := by omega
      have eT : T n = ⟨(Classical.choose (cho ⟨xs[n], List.getElem_mem hlt⟩)).1, (Classical.choose (cho ⟨xs[n], List.getElem_mem hlt⟩)).1, keep xs[n], fd (val xs[n]), (Classical.choose (cho ⟨xs[n], List.getElem_mem hlt⟩)).2⟩ := dif_pos hlt
      unfold outs
      rw [eT, ih (by omega), take_succ_of (List.getElem?_eq_getElem hlt), List.filter_append]
      dsimp only
      by_cases q : keep xs[n] = true
      · rw [if_pos q, List.filter_cons_of_pos q, List.filter_nil, List.map_append, List.map_append]; rfl
      · rw [if_neg q, List.filter_cons_of_neg q, List.filter_nil, List.append_nil]
  rw [List.length_map, eo _ (Nat.le_refl _), List.take_length] at h
  exact h
/-! ### typed readings of the rest -/
theorem pd_lenM {src : Option Nat} (hm : X.mg ("len" : Str) = none) (h : PQ X a ρ src (ns.map f) ρ1) (ok : SrcOk ρ1 src (ns.map f)) (hg : Gl X "len" := by rfl) (he : starEach [a] X.env = (false, eval a X.env) :: starEach [] X.env := by rfl) : PD X (.Call (.Name "len" p) [a] [] pos) ρ (.int (ns.length : Int)) ρ1 := by
  have h' := pd_len (pos := pos) (p := p) hm h ok hg he
  rw [List.length_map] at h'
  exact h'
theorem td_truthM {src : Option Nat} (h : PQ X a ρ src (ns.map f) ρ1) (ok : SrcOk ρ1 src (ns.map f)) (he : ∀ whole, isTrue a X.env whole = (do let v ← whole; standAt a.pos; holding [v] (truthy v)) := by intro _; rfl) : TD X a ρ (!ns.isEmpty) ρ1 := by
  have h' := td_truthL h ok he
  rw [List.isEmpty_map] at h'
  exact h'
theorem id_range0 {n : Nat} (hm : X.mg "range" = none) (h : PD X a ρ (.int (n : Int)) ρ') (h2 : n < 2 ^ 62) (hg : Gl X "range" := by rfl) (hs : starEach [a] X.env = [(false, eval a X.env)] := by rfl) : ID X tg (.Call (.Name "range" p) [a] [] pos) ρ ((List.range n).map fun i : Nat => PyData.int (i : Int)) (fun _ => True) none ρ' := by
  have h' := id_range1 (tg := tg) (pos := pos) (p := p) hm h (by omega) (by omega) hg hs
  unfold rgD at h'
  simp only [Int.toNat_natCast, Int.zero_add] at h'
  exact h'
theorem id_rangeI {n : Int} (hm : X.mg "range" = none) (h : PD X a ρ (.int n) ρ') (h2 : n.toNat < 2 ^ 62) (h3 : -(2 ^ 62) ≤ n) (hg : Gl X "range" := by rfl) (hs : starEach [a] X.env = [(false, eval a X.env)] := by rfl) : ID X tg (.Call (.Name "range" p) [a] [] pos) ρ ((List.range n.toNat).map fun i : Nat => PyData.int (i : Int)) (fun _ => True) none ρ' := by
  have h' := id_range1 (tg := tg) (pos := pos) (p := p) hm h (by omega) (by omega) hg hs
  unfold rgD at h'
  simp only [Int.zero_add] at h'
  exact h'
/-- the turns of a comprehension that changes slots -/
def scanV (step : S → α → S) (keep : S → α → Bool) (val : S → α → β) : S → List α → List β
  | _, [] => []
  | s, a :: r => if keep s a = true then val s a :: scanV step keep val (step s a) r else scanV step keep val (step s a) r
theorem scanV_snoc (step : S → α → S) (keep : S → α → Bool) (val : S → α → β) : ∀ (r : List α) (s : S) (a : α), scanV step keep val s (r ++ [a]) = scanV step keep val s r ++ if keep (r.foldl step s) a = true then [val (r.foldl step s) a] else []
  | [], s, a => by
    show scanV step keep val s [a] = _
    unfold scanV
    show (if keep s a = true then val s a :: scanV step keep val (step s a) [] else scanV step keep val (step s a) []) = [] ++ _
    unfold scanV
    rfl
  | b :: r, s, a => by
    rw [List.cons_append]
    unfold scanV
    rw [scanV_snoc step keep val r (step s b) a, List.foldl_cons]
    split <;> rfl
theorem lcS (xs : List α) (td : α → PyData) (fd : β → PyData) (sh : S → En) (step : S → α → S) (keep : S → α → Bool) (val : S → α → β) (s0 : S) {scope : Scope} {own : List (Str × Nat)} {ifs : List Expr} {src : Option Nat} {ok : En → Prop} (hb : BlkOk X.N X.env.scope scope own) (hi : ID X tg iter ρ (xs.map td) ok src ρ1) (h0 : Le (wipeE (sh s0) (own.map (·.2))) ρ1) (hlen : xs.length < 100000) (hsrc : ∀ j, src = some j → j ∉ own.map (·.2)) (hok : ∀ s, ok (wipeE (sh s) (own.map (·.2))))
    (hT : ∀ i a s, xs[i]? = some a → s = (xs.take i).foldl step s0 → ∃ ρt ρm ρe, (∀ Y, IsBlk X scope Y → GV Y (own.map (·.2)) tg (td a) (wipeE (sh s) (own.map (·.2))) ρt) ∧ (∀ Y, IsBlk X scope Y → PTs Y ifs (tT X.K ρt (keep s a) ρm)) ∧ (∀ Y, IsBlk X scope Y → keep s a = true → PE Y elt (tP X.K ρm (fd (val s a)) ρe)) ∧ (keep s a = true → Le (wipeE (sh (step s a)) (own.map (·.2))) ρe) ∧ (keep s a = false → Le (wipeE (sh (step s a)) (own.map (·.2))) ρm)): LcOk X elt tg iter ifs scope ρ (.l ((scanV step keep val s0 xs).map fd)) (restE ρ1 (sh (xs.foldl step s0)) (own.map (·.2))) := by
  let st : Nat → S := fun i => (xs.take i).foldl step s0
  have cho : ∀ p : { p : Nat × α // xs[p.1]? = some p.2 }, ∃ q : En × En × En, (∀ Y, IsBlk X scope Y → GV Y (own.map (·.2)) tg (td p.1.2) (wipeE (sh (st p.1.1)) (own.map (·.2))) q.1) ∧ (∀ Y, IsBlk X scope Y → PTs Y ifs (tT X.K q.1 (keep (st p.1.1) p.1.2) q.2.1)) ∧ (∀ Y, IsBlk X scope Y → keep (st p.1.1) p.1.2 = true → PE Y elt (tP X.K q.2.1 (fd (val (st p.1.1) p.1.2)) q.2.2)) ∧ (keep (st p.1.1) p.1.2 = true → Le (wipeE (sh (step (st p.1.1) p.1.2)) (own.map (·.2))) q.2.2) ∧ (keep (st p.1.1) p.1.2 = false → Le (wipeE (sh (step (st p.1.1) p.1.2)) (own.map (·.2))) q.2.1) := fun p => by
    obtain ⟨ρt, ρm, ρe, h⟩ := hT p.1.1 p.1.2 _ p.2 rfl
    exact ⟨(ρt, ρm, ρe), h⟩
  let T : Nat → Turn := fun i => if h : i < xs.length then
      let q := Classical.choose (cho ⟨(i, xs[i]), List.getElem?_eq_getElem h⟩)
      ⟨q.1, q.2.1, keep (st i) xs[i], fd (val (st i) xs[i]), q.2.2⟩ else ⟨[], [], false, .none, []⟩
  have eT : ∀ i (h : i < xs.length), T i = ⟨(Classical.choose (cho ⟨(i, xs[i]), List.getElem?_eq_getElem h⟩)).1, (Classical.choose (cho ⟨(i, xs[i]), List.getElem?_eq_getElem h⟩)).2.1, keep (st i) xs[i], fd (val (st i) xs[i]), (Classical.choose (cho ⟨(i, xs[i]), List.getElem?_eq_getElem h⟩)).2.2⟩ := fun i h => dif_pos h
  have sN : ∀ i (h : i < xs.length), st (i + 1) = step (st i) xs[i] := fun i h => by
    show (xs.take (i + 1)).foldl step s0 = _
    rw [take_succ_of (List.getElem?_eq_getElem h), List.foldl_append]; rfl
  have hT' : ∀ i d, (xs.map td)[i]? = some d → TurnOk X scope (own.map (·.2)) tg elt ifs d (sh (st i)) (sh (st (i + 1))) (T i) := fun i d hd => by
    have hlt : i < xs.length := by
      by_cases z : i < xs.length
      · exact z
      · rw [List.getElem?_eq_none (by rw [List.length_map]; omega)] at hd; cases hd
    rw [List.getElem?_map, List.getElem?_eq_getElem hlt] at hd
    cases hd
    have sp := Classical.choose_spec (cho ⟨(i, xs[i]), List.getElem?_eq_getElem hlt⟩)
    rw [eT i hlt]
    obtain ⟨s1, s2, s3, s4, s5⟩ := sp
    refine ⟨s1, s2, s3, ?_⟩
    dsimp only
    rw [sN i hlt]
    split
    · rename_i q; exact s4 q
    · rename_i q; exact s5 (by simpa using q)
  have h := lc_ok (its := xs.map td) (fun i => sh (st i)) T hb hi h0 hsrc (fun _ _ => hok _) (by rw [List.length_map]; exact hlen) hT'
  have eo : ∀ n, n ≤ xs.length → outs T n = (scanV step keep val s0 (xs.take n)).map fd := by
    intro n
    induction n with
    | zero => intro _; rfl
    | succ n ih =>
      intro hn
      have hlt : n < xs.length := by omega
      unfold outs
      rw [eT n hlt, ih (by omega), take_succ_of (List.getElem?_eq_getElem hlt), scanV_snoc, List.map_append]
      dsimp only
      by_cases q : keep (st n) xs[n] = true
      · rw [if_pos q, if_pos q]; rfl
      · rw [if_neg q, if_neg q]; simp
  rw [List.length_map, eo _ (Nat.le_refl _), List.take_length] at h
  have e2 : st xs.length = xs.foldl step s0 := by
    show (xs.take xs.length).foldl step s0 = _
    rw [List.take_length]
  rw [e2] at h
  exact h
theorem bd_env (h : ρ = ρ') (hb : BD X W body ρ' D) : BD X W body ρ D := h ▸ hb
/-! ### a name that owns its list: read -/
theorem srcO {j : Nat} {q : Option Addr} {xs : List PyData} (h : ρ[j]? = some (.o q (.l xs))) : SrcOk ρ (some j) xs := ⟨q, h⟩
theorem pd_ixO {o : Str} {p1 : Pos} {pa pb : Option Addr} {xs : List PyData} (j : Nat) (h0 : ρ[j]? = some (.o pa (.l xs))) (hb : PD X b ρ (.int i) ρ2) (h1 : ρ2[j]? = some (.o pb (.l xs))) (h : atI xs i = some x) (hs : PlainIx b := by intro _ _; rfl)
    (hN : X.N[j]? = some o := by rfl) (hv : Vis X.env.scope o := by first | exact Or.inl rfl | exact Or.inr (Or.inl rfl) | exact Or.inr (Or.inr rfl)) (hd : (o == ("__debug__" : Str)) = false := by decide) (hcd : (o == ("__classdict__" : Str)) = false := by decide) :
    PD X (.Subscript (.Name o p1) b pos) ρ x ρ2 := pd_ixL h (srcO h1) (pq_o j h0 hN hv hd hcd) hb hs
theorem pd_gixO [Inhabited α] {o : Str} {p1 : Pos} {pa pb : Option Addr} (j : Nat) (h0 : ρ[j]? = some (.o pa (.l (ns.map f)))) (hb : PD X b ρ (.int i) ρ2) (h1 : ρ2[j]? = some (.o pb (.l (ns.map f)))) (h : -(ns.length : Int) ≤ i ∧ i < ns.length) (hs : PlainIx b := by intro _ _; rfl)
    (hN : X.N[j]? = some o := by rfl) (hv : Vis X.env.scope o := by first | exact Or.inl rfl | exact Or.inr (Or.inl rfl) | exact Or.inr (Or.inr rfl)) (hd : (o == ("__debug__" : Str)) = false := by decide) (hcd : (o == ("__classdict__" : Str)) = false := by decide) :
    PD X (.Subscript (.Name o p1) b pos) ρ (f (gI ns i)) ρ2 := pd_ixL (gI_at h) (srcO h1) (pq_o j h0 hN hv hd hcd) hb hs
theorem pd_lenO {o : Str} {p1 : Pos} {pa : Option Addr} (j : Nat) (hm : X.mg ("len" : Str) = none) (h0 : ρ[j]? = some (.o pa (.l (ns.map f)))) (hg : Gl X "len" := by rfl) (he : starEach [.Name o p1] X.env = (false, eval (.Name o p1) X.env) :: starEach [] X.env := by rfl)
    (hN : X.N[j]? = some o := by rfl) (hv : Vis X.env.scope o := by first | exact Or.inl rfl | exact Or.inr (Or.inl rfl) | exact Or.inr (Or.inr rfl)) (hd : (o == ("__debug__" : Str)) = false := by decide) (hcd : (o == ("__classdict__" : Str)) = false := by decide) :
    PD X (.Call (.Name "len" p) [.Name o p1] [] pos) ρ (.int (ns.length : Int)) ρ := pd_lenM hm (pq_o j h0 hN hv hd hcd) (srcO h0) hg he
theorem td_truthO {o : Str} {p1 : Pos} {pa : Option Addr} (j : Nat) (h0 : ρ[j]? = some (.o pa (.l (ns.map f)))) (he : ∀ whole, isTrue (.Name o p1) X.env whole = (do let v ← whole; standAt (Expr.Name o p1).pos; holding [v] (truthy v)) := by intro _; rfl)
    (hN : X.N[j]? = some o := by rfl) (hv : Vis X.env.scope o := by first | exact Or.inl rfl | exact Or.inr (Or.inl rfl) | exact Or.inr (Or.inr rfl)) (hd : (o == ("__debug__" : Str)) = false := by decide) (hcd : (o == ("__classdict__" : Str)) = false := by decide) :
    TD X (.Name o p1) ρ (!ns.isEmpty) ρ := td_truthM (pq_o j h0 hN hv hd hcd) (srcO h0) he
/-! ### of lists that are data -/
theorem srcN {xs : List PyData} : SrcOk ρ none xs := trivial
theorem pd_gixD [Inhabited α] (h : -(ns.length : Int) ≤ i ∧ i < ns.length) (ha : PD X a ρ (.list (ns.map f)) ρ1) (hb : PD X b ρ1 (.int i) ρ2) (hs : PlainIx b := by intro _ _; rfl) : PD X (.Subscript a b pos) ρ (f (gI ns i)) ρ2 := pd_ixL (gI_at h) (srcN) (pq_d ha) hb hs
theorem pd_lenD (hm : X.mg ("len" : Str) = none) (h : PD X a ρ (.list (ns.map f)) ρ1) (hg : Gl X "len" := by rfl) (he : starEach [a] X.env = (false, eval a X.env) :: starEach [] X.env := by rfl) : PD X (.Call (.Name "len" p) [a] [] pos) ρ (.int (ns.length : Int)) ρ1 := pd_lenM hm (pq_d h) (srcN) hg he
theorem td_truthD (h : PD X a ρ (.list (ns.map f)) ρ1) (he : ∀ whole, isTrue a X.env whole = (do let v ← whole; standAt a.pos; holding [v] (truthy v)) := by intro _; rfl) : TD X a ρ (!ns.isEmpty) ρ1 := td_truthM (pq_d h) (srcN) he
theorem pd_sumD {ns : List Int} (hc : X.calm = true) (hm : X.mg ("sum" : Str) = none) (h : PD X a ρ (.list (ns.map .int)) ρ1) (hg : Gl X "sum" := by rfl) (he : starEach [a] X.env = (false, eval a X.env) :: starEach [] X.env := by rfl) : PD X (.Call (.Name "sum" p) [a] [] pos) ρ (.int ns.sum) ρ1 := pd_sum hc hm (pq_d h) (srcN) hg he
theorem pd_maxD {ns : List Int} (hc : X.calm = true) (hm : X.mg ("max" : Str) = none) (hn : 0 < ns.length) (h : PD X a ρ (.list (ns.map .int)) ρ1) (hg : Gl X "max" := by rfl) (he : starEach [a] X.env = (false, eval a X.env) :: starEach [] X.env := by rfl) : PD X (.Call (.Name "max" p) [a] [] pos) ρ (.int (lmax ns)) ρ1 := pd_maxL hc hm hn (pq_d h) (srcN) hg he
theorem pd_minD {ns : List Int} (hc : X.calm = true) (hm : X.mg ("min" : Str) = none) (hn : 0 < ns.length) (h : PD X a ρ (.list (ns.map .int)) ρ1) (hg : Gl X "min" := by rfl) (he : starEach [a] X.env = (false, eval a X.env) :: starEach [] X.env := by rfl) : PD X (.Call (.Name "min" p) [a] [] pos) ρ (.int (lmin ns)) ρ1 := pd_minL hc hm hn (pq_d h) (srcN) hg he
theorem pd_listD (hm : X.mg ("list" : Str) = none) (h : PD X a ρ (.list (ns.map f)) ρ1) (hg : Gl X "list" := by rfl) (he : starEach [a] X.env = (false, eval a X.env) :: starEach [] X.env := by rfl) : PN X (.Call (.Name "list" p) [a] [] pos) ρ (.l (ns.map f)) ρ1 := pn_list hm (pq_d h) (srcN) hg he
theorem pn_catD (ha : PD X a ρ (.list (ns.map f)) ρ1) (hb : PD X b ρ1 (.list (ms.map f)) ρ2) (hl : ns.length + ms.length ≤ 100000) : PN X (.BinOp a .Add b pos) ρ (.l ((ns ++ ms).map f)) ρ2 := pn_catM (pq_d ha) (srcN) (pq_d hb) (srcN) hl
theorem pn_sliceD {lo hi : Option Expr} {ol oh : Option Int} {p2 : Pos} (h : PD X e ρ (.list (ns.map f)) ρ1) (hl : OD X lo ρ1 ol ρ2) (hh : OD X hi ρ2 oh ρ3) : PN X (.Subscript e (.Slice lo hi none p2) pos) ρ (.l ((cutG ns ol oh).map f)) ρ3 := pn_sliceM (pq_d h) hl hh (srcN)
theorem id_listD (h : PD X e ρ (.list (ns.map f)) ρ') : ID X tg e ρ (ns.map f) (fun r => SrcOk r none (ns.map f)) none ρ' := id_list (pq_d h) (srcN)
/-- without an if -/
theorem lcN (xs : List α) (td : α → PyData) (fd : β → PyData) (val : α → β) {scope : Scope} {own : List (Str × Nat)} {src : Option Nat} {ok : En → Prop} (hb : BlkOk X.N X.env.scope scope own) (hi : ID X tg iter ρ (xs.map td) ok src ρ1) (hlen : xs.length < 100000) (hsrc : ∀ j, src = some j → j ∉ own.map (·.2)) (hok : ok (wipeE ρ1 (own.map (·.2))))
    (hT : ∀ a, a ∈ xs → ∃ ρt ρe, (∀ Y, IsBlk X scope Y → GV Y (own.map (·.2)) tg (td a) (wipeE ρ1 (own.map (·.2))) ρt) ∧ (∀ Y, IsBlk X scope Y → PE Y elt (tP X.K ρt (fd (val a)) ρe)) ∧ Le (wipeE ρ1 (own.map (·.2))) ρt ∧ Le (wipeE ρ1 (own.map (·.2))) ρe): LcOk X elt tg iter [] scope ρ (.l ((xs.map val).map fd)) (restE ρ1 ρ1 (own.map (·.2))) := by
  have h := lcM (ifs := []) xs td fd (fun _ => true) val hb hi hlen hsrc hok (fun a ha => by
    obtain ⟨ρt, ρe, h1, h2, h3, h4⟩ := hT a ha
    exact ⟨ρt, ρe, h1, fun Y hY => tsd_nil_of hY, fun Y hY _ => h2 Y hY, h3, h4⟩)
  rw [List.filter_eq_self.mpr (fun _ _ => rfl)] at h
  exact h
/-- xs[i] = v -/
def setI (xs : List α) (i : Int) (v : α) : List α := if i < 0 then xs.set (i + xs.length).toNat v else xs.set i.toNat v
theorem setI_len (xs : List α) (i : Int) (v : α) : (setI xs i v).length = xs.length := by
  unfold setI
  split <;> rw [List.length_set]
theorem ne_len {xs : List α} (h : (!xs.isEmpty) = true) : 0 < xs.length := by
  cases xs with
  | nil => cases h
  | cons x r => exact Nat.succ_pos _
theorem sd_setixM {o : Str} {p1 p2 : Pos} {pa pb : Option Addr} {ys : List PyData} {ix : Int} {v : α} (j : Nat) (he : PD X e ρ (f v) ρ1) (h0 : ρ1[j]? = some (.o pa (.l ys))) (hix : PD X a ρ1 (.int ix) ρ2) (h1 : ρ2[j]? = some (.o pb (.l (ns.map f)))) (hn : -(ns.length : Int) ≤ ix ∧ ix < ns.length) (h : D.nx (ρ2.set j (.o pb (.l ((setI ns ix v).map f)))))
    (hN : X.N[j]? = some o := by rfl) (hv : Vis X.env.scope o := by first | exact Or.inl rfl | exact Or.inr (Or.inl rfl) | exact Or.inr (Or.inr rfl)) (hd : (o == ("__debug__" : Str)) = false := by decide) (hcd : (o == ("__classdict__" : Str)) = false := by decide)
    (hg : ∀ v, assign (.Subscript (.Name o p1) a p2) X.env v = (do
      let ov ← holding [v] (eval (.Name o p1) X.env)
      let iv ← holding [v, ov] (eval a X.env)
      standAt p2
      holding [v, ov, iv] (setItem ov iv v)
      release [v, ov, iv] []) := by intro _; rfl)
    (hs : swapsWithSole [.Subscript (.Name o p1) a p2] e pos.line X.env = pure false := by rfl) (hw : swappedStores [.Subscript (.Name o p1) a p2] e X.env = pure none := by rfl)
    (hm : (assignEach [.Subscript (.Name o p1) a p2] X.env).map (·.2) = [assign (.Subscript (.Name o p1) a p2) X.env] := by rfl) :
    SD X W (.Assign [.Subscript (.Name o p1) a p2] e pos) ρ D := by
  unfold setI at h
  by_cases q : ix < 0
  · rw [if_pos q, List.map_set] at h
    refine sd_setix (n := (ix + ns.length).toNat) j he h0 hix h1 ?_ h hN hv hd hcd hg hs hw hm
    unfold ixN
    rw [List.length_map, if_neg (by omega), if_pos (by omega)]
  · rw [if_neg q, List.map_set] at h
    refine sd_setix (n := ix.toNat) j he h0 hix h1 ?_ h hN hv hd hcd hg hs hw hm
    unfold ixN
    rw [List.length_map, if_pos (by omega), if_pos (by omega)]
/-- a, b, .. = a list -/
theorem gd_lst {kk : Nat} {xs : List PyData} (hc : X.calm = true) (h : GsD X es xs ρ ρ') (hn : (assignEach es X.env).length = xs.length := by rfl) (hst : (assignEach es X.env).findIdx? (·.1) = none := by rfl) : GD X (.Tuple es kk pos) (.list xs) ρ ρ' := PG_imp (pg_lst hc h hn hst) fun v σ H Q ⟨C, F, se, r, q⟩ => by
  cases r with
  | lst h1 h2 => exact ⟨_, _, rfl, se.fr.ext.l h1, h2.length, C, F, se, h2, q⟩
theorem isN_dO (o : Option α) (h : ∀ a, isNone (f a) = false) : isNone (dO f o) = o.isNone := by
  cases o with
  | none => rfl
  | some a => exact h a
theorem notN_dO (o : Option α) (h : ∀ a, isNone (f a) = false) : (!isNone (dO f o)) = !o.isNone := by rw [isN_dO o h]
theorem id_rangeM {m n : Int} (hm : X.mg "range" = none) (ha : PD X a ρ (.int m) ρ1) (hb : PD X b ρ1 (.int n) ρ') (h1 : -(2 ^ 62) ≤ m) (h2 : m < 2 ^ 62) (h3 : -(2 ^ 62) ≤ n) (h4 : n < 2 ^ 62) (hg : Gl X "range" := by rfl)
    (hs : starEach [a, b] X.env = [(false, eval a X.env), (false, eval b X.env)] := by rfl) (hs2 : starEach [b] X.env = [(false, eval b X.env)] := by rfl) : ID X tg (.Call (.Name "range" p) [a, b] [] pos) ρ ((List.range (n - m).toNat).map fun i : Nat => PyData.int (m + (i : Int))) (fun _ => True) none ρ' :=
  id_range2 hm ha hb h1 h2 h3 h4 hg hs hs2
theorem pd_allD {bs : List Bool} (hc : X.calm = true) (hm : X.mg ("all" : Str) = none) (h : PD X a ρ (.list (bs.map .bool)) ρ1) (hg : Gl X "all" := by rfl) (he : starEach [a] X.env = (false, eval a X.env) :: starEach [] X.env := by rfl) : PD X (.Call (.Name "all" p) [a] [] pos) ρ (.bool (bs.all fun b => b)) ρ1 := pd_all hc hm (pq_d h) srcN hg he
theorem pd_anyD {bs : List Bool} (hc : X.calm = true) (hm : X.mg ("any" : Str) = none) (h : PD X a ρ (.list (bs.map .bool)) ρ1) (hg : Gl X "any" := by rfl) (he : starEach [a] X.env = (false, eval a X.env) :: starEach [] X.env := by rfl) : PD X (.Call (.Name "any" p) [a] [] pos) ρ (.bool (bs.any fun b => b)) ρ1 := pd_any hc hm (pq_d h) srcN hg he
end
end G

/-! GPool: what the laws drawP from. -/
namespace G
open PySem PySem.Spec PyProof.Rows L2
structure Pool where
  l : List Int
  a : Nat
  b : Int
  c : Int
  d : Int
def pl (p : Pool) : List PyData := [.list (p.l.map .int), .int (p.a : Int), .int p.b, .int p.c, .int p.d]
def drawEnd (p : Pool) (n : Int) : Int × Pool :=
  let m := (p.c * 48271 + (p.d + 1) * 69621 + 7919) % 2147483647
  (((m * m + (p.d + 1) * 40692) % 2147483399) % n, { p with d := p.d + 1 })
def drawP (p : Pool) (n : Int) : Int × Pool :=
  if p.b > 0 then (p.b % n, { p with b := p.b / n })
  else if decide (p.d % 8 = 0) && decide ((p.a : Int) < p.l.length) then
    let cell : Int := (gI p.l (p.a : Int)).natAbs
    if cell ≥ 10 ^ 18 then (cell % n, { p with a := p.a + 1, b := cell / n })
    else drawEnd { p with a := p.a + 1, c := cell } n
  else drawEnd p n
theorem drawEnd_bd (p : Pool) {n : Int} (h : 0 < n) : 0 ≤ (drawEnd p n).1 ∧ (drawEnd p n).1 < n := ⟨Int.emod_nonneg _ (by omega), Int.emod_lt_of_pos _ h⟩
theorem draw_bd (p : Pool) {n : Int} (h : 0 < n) : 0 ≤ (drawP p n).1 ∧ (drawP p n).1 < n := by
  unfold drawP
  split
  · exact ⟨Int.emod_nonneg _ (by omega), Int.emod_lt_of_pos _ h⟩
  · split
    · dsimp only
      split
      · exact ⟨Int.emod_nonneg _ (by omega), Int.emod_lt_of_pos _ h⟩
      · exact drawEnd_bd _ h
    · exact drawEnd_bd _ h
/-- a draw, named -/
theorem drawE (p : Pool) {n : Int} (h : 0 < n) : ∃ (v : Int) (q : Pool), (v, q) = drawP p n ∧ 0 ≤ v ∧ v < n := ⟨_, _, rfl, draw_bd p h⟩
/-- an int drawn -/
def SDraw (xs ds : List PyData) (y : PyData) (xs' : List PyData) : Prop := ∃ (p : Pool) (n : Int) (r : Int × Pool), xs = pl p ∧ ds = [.int n] ∧ (0 < n ∧ n < 1073741824) ∧ r = drawP p n ∧ y = .int r.1 ∧ xs' = pl r.2
def SPick (xs ds : List PyData) (y : PyData) (xs' : List PyData) : Prop := ∃ (p : Pool) (rows : List PyData) (r : Int × Pool), xs = pl p ∧ ds = [.list rows] ∧ (0 < rows.length ∧ rows.length < 100000) ∧ r = drawP p rows.length ∧ rows[r.1.toNat]? = some y ∧ xs' = pl r.2
end G
namespace G
open PySem PySem.Spec PyProof.Rows L2
/-- data without dicts, no deeper than that -/
inductive Nice : Nat → PyData → Prop
  | non {d : Nat} : Nice d .none
  | bl {d : Nat} (b : Bool) : Nice d (.bool b)
  | int {d : Nat} (i : Int) : Nice d (.int i)
  | str {d : Nat} (t : Str) : Nice d (.str t)
  | lst {d : Nat} {xs : List PyData} : xs.length < 100000 → (∀ x ∈ xs, Nice d x) → Nice (d + 1) (.list xs)
  | tup {d : Nat} {xs : List PyData} : xs.length < 100000 → (∀ x ∈ xs, Nice d x) → Nice (d + 1) (.tuple xs)
/-- _law_same of two alike -/
def SSame (d : Nat) (ds : List PyData) (r : Res) : Prop := ∃ x, ds = [x, x] ∧ Nice d x ∧ r = .ret (.bool true)
section
variable {X : Cx} {W : WX} {ρ : En} {st : Stmt} {rest : List Stmt} {D : DE}
/-- a statement that never falls through -/
theorem bd_guard_end (h : SD X W st ρ { D with nx := fun _ => False }) : BD X W (st :: rest) ρ D := bd_cut (fun _ => False) h fun _ z => z.elim
end
end G
namespace G
open PySem PySem.Spec PyProof.Rows L2
/-- a def over a pool that is told by what holds of its result -/
def spP (K : PySem.W.Frag) (S : List PyData → Prop) (R : List PyData → PyData → Prop) : Sp := fun vs H Q E => ∃ F l vs' us p ds, vs = .ref l :: vs' ∧ Ex F H ∧ F l = none ∧ H l = some (.lst us) ∧ RpA K F us (pl p) ∧ RpA K F vs' ds ∧ S ds ∧
  ∀ y q, R ds y → ∀ v F' H' us', GrW l F H F' H' → H' l = some (.lst us') → RpA K F' us' (pl q) → Rp K F' v y → Q v H'
section
variable {P : Program} {w : World} {K : PySem.W.Frag} {mg : Str → Option Value} {base : Heap} {x qual : Str} {f : Addr} {fd : FuncData} {N ps : List Str} {k : Nat}
theorem fn_PD {params : Arguments} {body : List Stmt} {scope : Scope} {dvs : List V} {kws : List (Str × V)} {S : List PyData → Prop} {R : List PyData → PyData → Prop} (Fn : FunD K x qual params body scope dvs kws f fd) (Sc : FnScope N ps scope) (hlen : ∀ ds, S ds → ds.length + 1 = ps.length) (hN : ps.length ≤ N.length)
    (hb : ∀ (cdv : Value) (A : Around) (outer : List Env) (s : Shared) (H : Hp) (E : XK), Room k (A.deeper (envOfC qual scope s.heap.objs.size f cdv)) → ∀ l p ds, S ds →
      BD (cxOf (L2N.CX P w) P w K mg base N qual scope f cdv A outer s H E) (WB E) body (pad N.length (.o (some l) (.l (pl p)) :: ds.map .d)) { rt := fun x ρ => R ds x ∧ ∃ q, ρ[0]? = some (.o (some l) (.l (pl q))), nx := fun ρ => R ds .none ∧ ∃ q, ρ[0]? = some (.o (some l) (.l (pl q))) }) :
    FnOk P w K mg base (L2N.CX P w) (k + 1) f fd ps (spP K S R) := by
  refine Fn.ok Sc (fun vs H Q E ⟨F, l, vs', us, p, ds, ev, _, _, _, _, rv, s, _⟩ => by rw [ev, List.length_cons, rv.length]; exact hlen _ s) fun cdv A outer s H vs Q E hr ⟨F, l, vs', us, p, ds, ev, ex, fl, hl, ru, rv, sr, rd⟩ => ?_
  subst ev
  refine ⟨_, hb cdv A outer s H E hr l p ds sr, ⟨F, H, [l]⟩, F, .startO ex fl hl ru rv (by rw [rv.length, hlen _ sr]; exact hN), ?_⟩
  have look : ∀ {C : Cn} {F' H' : Hp} {σ' : L2.St} {ρ' : En} {xs' : List PyData}, SE K C F' H' σ' ρ' → ρ'[0]? = some (.o (some l) (.l xs')) → ∃ us', H' l = some (.lst us') ∧ RpA K F' us' xs' := fun {C F' H' σ' ρ' xs'} s h => by
    obtain ⟨l', _, b, ⟨us', c, d⟩, _⟩ := s.getO h
    rcases b with b | b
    · cases b
    · cases b
      exact ⟨us', c, d⟩
  refine ⟨fun ρ' F' H' σ' ⟨q1, q, q2⟩ s => ?_, fun x ρ' v F' H' σ' ⟨q1, q, q2⟩ s rp => ?_, fun _ _ _ _ _ _ _ z => z.elim, fun _ _ _ _ z => z.elim, fun _ _ _ _ z => z.elim, fun _ _ _ _ _ _ z => z.elim, fun _ _ _ _ _ _ _ _ _ z => z.elim⟩
  · obtain ⟨us', c, d⟩ := look s q2
    exact rd _ q q1 _ F' H' us' (.ofFr s.fr) c d .non
  · obtain ⟨us', c, d⟩ := look s q2
    exact rd x q q1 v F' H' us' (.ofFr s.fr) c d rp
end
section
variable {X : Cx} {W : WX} {e a b c : Expr} {es : List Expr} {p pos pos' p9 : Pos} {ρ ρ' ρ1 ρ2 ρ3 : En} {y z : PyData} {xs ys xs' ds : List PyData} {i j k : Nat} {x w : Str} {dvs : List V} {dds : List PyData} {D : DE}
def tPP (K : PySem.W.Frag) (ρ : En) (R : PyData → En → Prop) : TE := fun σ H Q => ∃ C F, SE K C F H σ ρ ∧ ∀ v F' H' x ρ', R x ρ' → Ex F F' → SE K C F' H' σ ρ' → Rp K F' v x → Q v H'
/-- some data comes, of which R holds -/
abbrev PP (X : Cx) (e : Expr) (ρ : En) (R : PyData → En → Prop) : Prop := PE X e (tPP X.K ρ R)
theorem pp_call {S : List PyData → Prop} {R : List PyData → PyData → Prop} {o : Str} {p0 : Pos} {pa pb : Option Addr} {q : Pool} (i : Nat) (cl : Cal X.prog X.w X.K X.mg X.base j x (spP X.K S R) dvs) (hr : Room k X.A) (hd : Dfs dvs dds) (h0 : ρ[i]? = some (.o pa (.l ys))) (ha : AD X es ρ ds ρ1) (h1 : ρ1[i]? = some (.o pb (.l (pl q)))) (hS : S (ds ++ dds)) (hk : j ≤ k := by decide) (hg : Gl X x := by rfl)
    (hN : X.N[i]? = some o := by rfl) (hv : Vis X.env.scope o := by first | exact Or.inl rfl | exact Or.inr (Or.inl rfl) | exact Or.inr (Or.inr rfl)) (hdo : (o == ("__debug__" : Str)) = false := by decide) (hcd : (o == ("__classdict__" : Str)) = false := by decide)
    (hdb : (x == ("__debug__" : Str)) = false := by decide) (he : starEach (.Name o p0 :: es) X.env = (false, eval (.Name o p0) X.env) :: starEach es X.env := by rfl) (hpl : (backTo pos (starEach es X.env)).any (·.1) = false := by rfl) :
    PP X (.Call (.Name x p) (.Name o p0 :: es) [] pos) ρ (fun y r => R (ds ++ dds) y ∧ ∃ q, r = ρ1.set i (.o pb (.l (pl q)))) := by
  obtain ⟨f, fd, ps, dd, fn, hm, kp, bi, vv⟩ := cl.ex
  refine PE_imp (pe_callSD fn (hr.mono hk) hg hm kp bi vv (fun σ => passE0 σ) (pa_cons (pe_var hN hv hdo hcd) ha he) hdb he hpl) fun σ H Q ⟨C, F, se, qq⟩ => ?_
  obtain ⟨l, a1, _, _, a4⟩ := se.getO h0
  refine ⟨.ref l, a1, C, F, se, fun vs F1 H1 x1 e1 r1 => ?_⟩
  obtain ⟨l', b1, b2, ⟨us, b3, b5⟩, b4⟩ := e1.getO h1
  rw [a1] at b1
  cases b1
  refine ⟨F1, l, vs ++ dvs, us, q, ds ++ dds, rfl, e1.fr.ext, (e1.own i l b4).1, b3, b5, r1.append hd.rp, hS, fun y q2 hR v F2 H2 us' g h2 ru rv => ?_⟩
  exact qq v F2 H2 y _ ⟨hR, q2, rfl⟩ (x1.trans g.f) (e1.wrg g h1 a1 ⟨us', h2, ru⟩) rv
theorem sd_setP {R : PyData → En → Prop} (i : Nat) (he : PP X e ρ R) (h : ∀ y r, R y r → D.nx (r.set i (.d y))) (hN : X.N.Nodup) (hi : X.N[i]? = some w := by rfl) (hx : Loc X.env.scope w := by first | exact Or.inl rfl | exact Or.inr rfl)
    (hf : X.fn w = true ∨ X.env.scope.names.lookup w = some .local := by first | exact .inl rfl | exact .inr rfl) (hs : swapsWith e (some (.Name w pos')) pos.line X.env = pure false := by rfl) : SD X W (.Assign [.Name w pos'] e pos) ρ D :=
  PS_imp (ps_set hN hi hx he hs hf) fun E σ H ⟨C, F, se, cv⟩ => ⟨C, F, se, fun v F1 H1 x r hR _ e1 r1 => cv.nx _ F1 H1 _ (h x r hR) (e1.setD r1)⟩
theorem sd_unpackP {R : PyData → En → Prop} (he : PP X e ρ R) (h : ∀ y r, R y r → ∃ ρ2, GD X a y r ρ2 ∧ D.nx ρ2) (hs : swapsWithSole [a] e pos.line X.env = pure false := by rfl) (hw : swappedStores [a] e X.env = pure none := by rfl)
    (h1 : (assignEach [a] X.env).map (·.2) = [assign a X.env] := by rfl) : SD X W (.Assign [a] e pos) ρ D :=
  PS_imp (ps_asg he (PG_ex (t := fun (t : { t : PyData × En × En // R t.1 t.2.1 ∧ GD X a t.1 t.2.1 t.2.2 ∧ D.nx t.2.2 }) => tG X.K t.1.1 t.1.2.1 t.1.2.2) fun t => t.2.2.1) hs hw h1) fun E σ H ⟨C, F, se, cv⟩ =>
    ⟨C, F, se, fun v F1 H1 x r hR _ e1 r1 => by
      obtain ⟨ρ2, g, n⟩ := h x r hR
      exact ⟨⟨(x, r, ρ2), hR, g, n⟩, C, F1, e1, r1, fun σ2 F2 H2 _ e2 => cv.nx ρ2 F2 H2 σ2 n e2⟩⟩
theorem sd_exprP {R : PyData → En → Prop} (he : PP X e ρ R) (h : ∀ y r, R y r → D.nx r) (hs : swapsWith e none pos.line X.env = pure false := by rfl) : SD X W (.Expr e pos) ρ D :=
  PS_imp (ps_expr he hs) fun E σ H ⟨C, F, se, cv⟩ => ⟨C, F, se, fun v F1 H1 x r hR _ e1 r1 => cv.nx _ F1 H1 _ (h x r hR) e1⟩
end
end G

/-! GExc: exceptions in words of data. -/
namespace G
open PySem PySem.Spec PyProof.Rows L2

section
variable {X : Cx} {W : WX} {e a b c o : Expr} {es : List Expr} {p pos pos' np : Pos} {ρ ρ' ρ1 ρ2 ρ3 : En} {x y z : PyData} {xs ys : List PyData} {st : Stmt} {rest A B body suite : List Stmt} {D : DE} {cls : Value} {fs : List (Str × PyData)} {w n : Str} {k : Bool} {C : Addr}
/-! ### an expression that raises, and what stands around it -/
theorem sd_exprX (he : PX X W e ρ cls fs ρ1) (h : D.ex cls fs ρ1) (hs : swapsWith e none pos.line X.env = pure false := by rfl) : SD X W (.Expr e pos) ρ D := PS_imp (ps_expr he hs) fun E σ H ⟨C, F, se, cv⟩ => ⟨C, F, se, fun d F' H' _ e' r => cv.ex cls fs ρ1 d F' H' σ h e' r⟩
theorem sd_setX (i : Nat) (he : PX X W e ρ cls fs ρ1) (h : D.ex cls fs ρ1) (hN : X.N.Nodup) (hi : X.N[i]? = some w := by rfl) (hx : Loc X.env.scope w := by first | exact Or.inl rfl | exact Or.inr rfl)
    (hf : X.fn w = true ∨ X.env.scope.names.lookup w = some .local := by first | exact .inl rfl | exact .inr rfl) (hs : swapsWith e (some (.Name w pos')) pos.line X.env = pure false := by rfl) : SD X W (.Assign [.Name w pos'] e pos) ρ D :=
  PS_imp (ps_set hN hi hx he hs hf) fun E σ H ⟨C, F, se, cv⟩ => ⟨C, F, se, fun d F' H' _ e' r => cv.ex cls fs ρ1 d F' H' σ h e' r⟩
theorem sd_retX (he : PX X W e ρ cls fs ρ1) (h : D.ex cls fs ρ1) : SD X W (.Return (some e) pos) ρ D := PS_imp (ps_ret he) fun E σ H ⟨C, F, se, cv⟩ => ⟨C, F, se, fun d F' H' _ e' r => cv.ex cls fs ρ1 d F' H' σ h e' r⟩
/-- a test that raises -/
def tXT (K : PySem.W.Frag) (W : WX) (ρ : En) (cls : Value) (fs : List (Str × PyData)) (ρ' : En) : TT := fun σ H _ => ∃ C F, SE K C F H σ ρ ∧ ∀ d F' H', Ex F F' → SE K C F' H' σ ρ' → ExRep K F' H' d fs → W cls d σ H'
abbrev TX (X : Cx) (W : WX) (e : Expr) (ρ : En) (cls : Value) (fs : List (Str × PyData)) (ρ' : En) : Prop := PT X e (tXT X.K W ρ cls fs ρ')
theorem tx_val (h : PX X W e ρ cls fs ρ1) (he : ∀ whole, isTrue e X.env whole = (do let v ← whole; standAt e.pos; holding [v] (truthy v)) := by intro _; rfl) : TX X W e ρ cls fs ρ1 := PT_imp (pt_val h he) fun σ H Q q => q
theorem tx_not (h : TX X W e ρ cls fs ρ1) : TX X W (.UnaryOp .Not e pos) ρ cls fs ρ1 := PT_imp (pt_not h) fun σ H Q q => q
theorem px_cmpL {op : CmpOp} {r : R2} (ho : OpR X (compareOp op) r) (ha : PX X W a ρ cls fs ρ1) (hm : behindInMarks op b = false) : PX X W (.Compare a [op] [b] pos) ρ cls fs ρ1 :=
  PE_imp (pe_cmpR ho ha (⟨fun _ _ _ _ _ _ h => h.elim⟩ : PE X b (fun _ _ _ => False)) hm) fun σ H Q q => q
theorem tx_cmpL {op : CmpOp} {r : R2} (ho : OpR X (compareOp op) r) (ha : PX X W a ρ cls fs ρ1) (hm : behindInMarks op b = false) : TX X W (.Compare a [op] [b] pos) ρ cls fs ρ1 :=
  PT_imp (pt_cmpR ho ha (⟨fun _ _ _ _ _ _ h => h.elim⟩ : PE X b (fun _ _ _ => False)) hm) fun σ H Q q => q
theorem px_opL {op : Operator} {r : R2} (ho : OpR X (binaryOp op) r) (ha : PX X W a ρ cls fs ρ1) : PX X W (.BinOp a op b pos) ρ cls fs ρ1 :=
  PE_imp (pe_op ho ha (⟨fun _ _ _ _ _ _ h => h.elim⟩ : PE X b (fun _ _ _ => False))) fun σ H Q q => q
theorem px_opR {op : Operator} {r : R2} (ho : OpR X (binaryOp op) r) (ha : PD X a ρ x ρ1) (hb : PX X W b ρ1 cls fs ρ2) : PX X W (.BinOp a op b pos) ρ cls fs ρ2 :=
  PE_imp (pe_op ho ha hb) fun σ H Q ⟨C, F, se, q⟩ => ⟨C, F, se, fun v F1 H1 x1 e1 r1 => ⟨C, F1, e1, fun d F2 H2 x2 e2 r2 => q d F2 H2 (x1.trans x2) e2 r2⟩⟩
theorem px_neg (ha : PX X W a ρ cls fs ρ1) : PX X W (.UnaryOp .USub a pos) ρ cls fs ρ1 := PE_imp (pe_un un_neg ha) fun σ H Q q => q
theorem sd_ifX (hc : TX X W c ρ cls fs ρ1) (h : D.ex cls fs ρ1) : SD X W (.If c A B pos) ρ D := by
  have nv : ∀ sts, PSs X sts (fun _ _ _ => False) := fun sts => ⟨fun _ _ _ _ _ _ h => h.elim⟩
  exact PS_imp (ps_if hc (nv A) (nv B)) fun E σ H ⟨C, F, se, cv⟩ => ⟨C, F, se, fun d F' H' _ e' r => cv.ex cls fs ρ1 d F' H' σ h e' r⟩
/-- arguments, one of which raises -/
def tXA (K : PySem.W.Frag) (W : WX) (ρ : En) (cls : Value) (fs : List (Str × PyData)) (ρ' : En) : TA := fun σ H _ => ∃ C F, SE K C F H σ ρ ∧ ∀ d F' H', Ex F F' → SE K C F' H' σ ρ' → ExRep K F' H' d fs → W cls d σ H'
abbrev AX (X : Cx) (W : WX) (es : List Expr) (ρ : En) (cls : Value) (fs : List (Str × PyData)) (ρ' : En) : Prop := PA X es (tXA X.K W ρ cls fs ρ')
theorem PA_any {t : TA} (es : List Expr) : PA X es (fun _ _ _ => False) := ⟨fun _ _ _ _ _ _ _ h => h.elim⟩
theorem ax_head (h : PX X W e ρ cls fs ρ1) (hs : starEach (e :: es) X.env = (false, eval e X.env) :: starEach es X.env := by rfl) : AX X W (e :: es) ρ cls fs ρ1 := PA_imp (pa_cons h (PA_any (t := tNil) es) hs) fun σ H Q q => q
theorem ax_tail (h : PD X e ρ x ρ1) (hr : AX X W es ρ1 cls fs ρ2) (hs : starEach (e :: es) X.env = (false, eval e X.env) :: starEach es X.env := by rfl) : AX X W (e :: es) ρ cls fs ρ2 := PA_imp (pa_cons h hr hs) fun σ H Q ⟨C, F, se, q⟩ =>
  ⟨C, F, se, fun v F1 H1 x1 e1 r1 => ⟨C, F1, e1, fun d F2 H2 x2 e2 r2 => q d F2 H2 (x1.trans x2) e2 r2⟩⟩
theorem px_callA {j k : Nat} {sp : Sp} {dvs : List V} {f : Str} (cl : Cal X.prog X.w X.K X.mg X.base j f sp dvs) (hr : Room k X.A) (ha : AX X W (e :: es) ρ cls fs ρ1) (hk : j ≤ k := by decide) (hg : Gl X f := by rfl)
    (hdb : (f == ("__debug__" : Str)) = false := by decide) (he : starEach (e :: es) X.env = (false, eval e X.env) :: starEach es X.env := by rfl) (hpl : (backTo pos (starEach es X.env)).any (·.1) = false := by rfl) : PX X W (.Call (.Name f p) (e :: es) [] pos) ρ cls fs ρ1 := by
  obtain ⟨f, fd, ps, dd, fn, hm, kp, bi, vv⟩ := cl.ex
  exact PE_imp (pe_callSD fn (hr.mono hk) hg hm kp bi vv (fun σ => passE0 σ) ha hdb he hpl) fun σ H Q q => q

/-! ### raise -/
/-- an exception class of the text -/
structure XC (K : PySem.W.Frag) (mg : Str → Option Value) (x : Str) : Prop where
  ex : PySem.W.excIn K (He.ga K x) He.veBase "ValueError.__new__" = true
  kp : PySem.W.keepIn K (.ref (He.ga K x)) = true
  sb : PySem.W.subIn K (.ref (He.ga K x)) (.type "BaseException") = some true
  ty : PySem.W.typeIn K (.ref (He.ga K x)) = some (.type "type")
  mg : mg x = some (.ref (He.ga K x))
/-- X(e), its context None -/
theorem mk_own1 {bmB : List Value} {B newId initId : String} {ta : TE} (Fb : ExcBaseFacts B newId initId bmB) (qC : PySem.W.excIn X.K C bmB newId = true) (gC : X.mg w = some (.ref C)) (kC : PySem.W.keepIn X.K (.ref C) = true) (rC : Raises X (.ref C)) (hg : Gl X w)
    (he : PE X e ta) (hs : starEach [e] X.env = (false, eval e X.env) :: starEach [] X.env := by rfl) (hdb : (w == ("__debug__" : Str)) = false := by decide) :
    L2N.PMk X (.Call (.Name w p) [e] [] pos) (fun σ H Q => ta σ H fun _ H1 => Q (.ref C) none H1) := fun pins s σ H Q I h => by
  refine wpAny_Call_Name_kw (ld_glob I hg gC ?_ hdb)
  have one : wpAny (model X.prog X.w) X.A (spliced ((false, eval e X.env) :: backTo pos (starEach [] X.env))) (fun us s1 => ∃ (v : V) (u : Value) (H1 : Hp), us = [u] ∧ Inv X pins σ H1 s1 ∧ RelV v u ∧ Q (.ref C) none H1) X.xe s := by
    exact Calls.spliced_cons (thn (he.run pins s σ H _ I h) fun u s1 ⟨v, H1, I1, r1, q1⟩ => Calls.spliced_nil ⟨v, u, H1, rfl, I1, r1, q1⟩)
  refine PySem.W.callWith_K (h₀ := X.base) I.ok.mod.kin kC ?_ hs (by rfl)
  rw [hs]
  refine thn one fun us s1 ⟨v, u, H1, eu, I1, r1, q1⟩ => ?_
  subst eu
  refine ⟨I1.kIn, ?_⟩
  show wpAny _ _ (call (.ref C) [u]) _ _ _
  obtain ⟨bm, N0, nm, qn, bs, hdct, sn, sb, ab, col, dd, k0, k1, k2, k3, k5, mN, hC, hN0, hni, T⟩ := exc_obj I1.kIn qC
  exact wpAny_call_exc_subT Fb T hC hN0 hni (fun h' a hm => L2N.mk_of I1 hm rC q1 (I1.hok.gone hm.new)) (by show 1 ≤ sizeLine; rw [sizeLine_eq]; omega)
theorem sd_raise1 (hc : X.calm = true) (tk : L2N.Takes X W) (xc : XC X.K X.mg w) (he : PD X e ρ x ρ1) (h : D.ex (.ref (He.ga X.K w)) [] ρ1) (hg : Gl X w := by rfl) (hs : starEach [e] X.env = (false, eval e X.env) :: starEach [] X.env := by rfl) (hdb : (w == ("__debug__" : Str)) = false := by decide) :
    SD X W (.Raise (some (.Call (.Name w p) [e] [] pos')) none pos) ρ D :=
  PS_imp (L2N.ps_raise hc tk (mk_own1 PySem.F.excBase_ValueError xc.ex xc.mg xc.kp (raises_own xc.sb xc.ty) hg he hs hdb)) fun E σ H ⟨C, F, se, cv⟩ => ⟨C, F, se, fun v F1 H1 _ e1 r1 => cv.ex _ [] ρ1 none F1 H1 σ h e1 rfl⟩
/-- str(i) -/
theorem pd_strI {i : Int} (hz : i.natAbs.log2 < 1920) (hm : X.mg ("str" : Str) = none) (ha : PD X a ρ (.int i) ρ1) (hg : Gl X "str" := by rfl) (he : starEach [a] X.env = (false, eval a X.env) :: starEach [] X.env := by rfl) : PD X (.Call (.Name "str" p) [a] [] pos) ρ (.str (toString i : Str)) ρ1 :=
  pd_ty call_str_int (fun F H vs Q e r q => by
    obtain ⟨v, rfl, h⟩ := rpa_one r
    rw [rp_int h]
    exact ⟨i, rfl, hz, q _ F H (.refl e) (.str _)⟩) (ad_one ha he) hm rfl hg (by decide) (by decide) he

/-! ### try: body, except x as n: suite -/
theorem SE.unset {K : PySem.W.Frag} {C : Cn} {F H : Hp} {σ : L2.St} {ρ : En} (e : SE K C F H σ ρ) (i : Nat) : SE K C F H (σ.set i none) (ρ.set i .un) := by
  have h := e.setU (i := i) (v := V.non)
  refine h.sub (by rw [List.length_set, List.length_set]) fun j s hj hn => ?_
  by_cases q : j = i
  · subst q
    exact absurd (set_at hj).1.symm hn
  · rw [List.getElem?_set_ne (Ne.symm q), List.getElem?_set_ne (Ne.symm q)]
theorem SE.setV {K : PySem.W.Frag} {C : Cn} {F H : Hp} {σ : L2.St} {ρ : En} (e : SE K C F H σ ρ) (i : Nat) (v : V) : SE K C F H (σ.set i (some v)) (ρ.set i (.v v)) := e.set rfl fun z => nomatch z
abbrev W0 : WX := fun _ _ _ _ => False
/-- what a handler leaves: its name's slot is free again -/
def hdD (D : DE) (i : Nat) : DE := { nx := fun r => D.nx (r.set i .un), rt := D.rt, bk := fun r => D.bk (r.set i .un), ct := fun r => D.ct (r.set i .un), rn := D.rn, rq := D.rq }
theorem sd_try_as (i : Nat) {c : Value} {b₀ : Stmt} (M : Value → List (Str × PyData) → En → Prop) (hs : X.stack = X.env :: X.outer) (hf : X.env.frame = some X.env.locals) (hN : X.N.Nodup) (hc : Names X w c) (tk : L2N.Takes X W)
    (hb : ∀ (W : WX) (pn : List (Addr × Obj)) (xe : Value → Shared → Prop), L2N.Takes (X.tr pn xe) W → PassesOwn (model X.prog X.w) X.A X.env xe → BD (X.tr pn xe) W body ρ { D with ex := M })
    (hh : ∀ cls fs ρ', M cls fs ρ' → ∃ b, PySem.W.exmOne X.K cls c = some b ∧ (b = true → ∀ (a : Addr) (oe : Obj) (d : Option Addr) (pn : List (Addr × Obj)), L2N.Zn cls d oe → (∃ vs, oe.data = .fields vs) → (fs = [] → d = none) → BD (X.suite a ((a, oe) :: pn)) W0 (b₀ :: suite) (ρ'.set i (.v (.ref a))) (hdD D i)) ∧ (b = false → D.ex cls fs ρ'))
    (hM : ∀ cls fs ρ', M cls fs ρ' → fs = []) (hi : X.N[i]? = some n := by rfl) (hln : X.env.kindOf n = some .local := by rfl) :
    SD X W (.Try body [.ExceptHandler (some (.Name w np)) (some n) (b₀ :: suite) pos'] [] [] pos) ρ D := by
  have hsu : ∀ (a : Addr) (oe : Obj) (cls : Value) (d : Option Addr) (pn : List (Addr × Obj)), L2N.Zn cls d oe → (∃ vs, oe.data = .fields vs) → PSs (X.suite a ((a, oe) :: pn)) (b₀ :: suite)
      (fun E σ H => ∃ q : { q : List (Str × PyData) × En // M cls q.1 q.2 ∧ PySem.W.exmOne X.K cls c = some true ∧ d = none }, tD X.K W0 (q.1.2.set i (.v (.ref a))) (hdD D i) E σ H) := fun a oe cls d pn hz hv => PSs_ex fun q => by
    obtain ⟨b, h1, h2, _⟩ := hh cls q.1.1 q.1.2 q.2.1
    rw [q.2.2.1] at h1
    cases h1
    exact h2 rfl a oe d pn hz hv fun _ => q.2.2.2
  refine PS_imp (L2N.ps_try_as hs hf hN hi hln hc tk (tb := fun W => tD X.K W ρ { D with ex := M }) (fun W pn xe t p => hb W pn xe t p) hsu) fun E σ H ⟨C, F, se, cv⟩ => ⟨C, F, se, ?_⟩
  refine ⟨cv.nx, cv.rt, fun cls fs ρ' d F' H' σ' m s r => ?_, cv.bk, cv.ct, cv.rn, cv.rq⟩
  have e0 := hM cls fs ρ' m
  subst e0
  obtain ⟨b, h1, h2, h3⟩ := hh cls [] ρ' m
  refine ⟨b, h1, fun hb1 a na => ?_, fun hb0 => cv.ex cls [] ρ' d F' H' σ' (h3 hb0) s r⟩
  subst hb1
  cases d with
  | some dd =>
    exact absurd rfl r.1
  | none =>
    refine ⟨⟨([], ρ'), m, h1, rfl⟩, C, F', s.setV i _, ?_⟩
    exact ⟨fun r F2 H2 σ2 q s2 => cv.nx _ F2 H2 _ q (s2.unset i), cv.rt, fun _ _ _ _ _ _ _ z => z.elim, fun r F2 H2 σ2 q s2 => cv.bk _ F2 H2 _ q (s2.unset i), fun r F2 H2 σ2 q s2 => cv.ct _ F2 H2 _ q (s2.unset i), cv.rn, cv.rq⟩
/-- isinstance(e, c), e the exception that is held -/
theorem pd_isX {a0 : Addr} {oe : Obj} {pn : List (Addr × Obj)} {q : Pos} {cv : Value} {vc : V} (i : Nat) (xc : ExcC X.K C) (hz : L2N.Zn (.ref C) none oe) (hf : ∃ vs, oe.data = .fields vs) (hk : PySem.W.kitOne X.K (.ref C) cv = some k) (hv : ∀ u, RelV vc u → u = cv) (hm : X.mg ("isinstance" : Str) = none) (hi : ρ[i]? = some (.v (.ref a0))) (hc : PE (X.suite a0 ((a0, oe) :: pn)) c (tC vc))
    (hN : (X.suite a0 ((a0, oe) :: pn)).N[i]? = some n := by rfl) (hvis : Vis (X.suite a0 ((a0, oe) :: pn)).env.scope n := by first | exact Or.inl rfl | exact Or.inr (Or.inl rfl) | exact Or.inr (Or.inr rfl)) (hd : (n == ("__debug__" : Str)) = false := by decide) (hcd : (n == ("__classdict__" : Str)) = false := by decide)
    (hg : Gl (X.suite a0 ((a0, oe) :: pn)) "isinstance" := by rfl) (he : starEach [.Name n q, c] (X.suite a0 ((a0, oe) :: pn)).env = (false, eval (.Name n q) (X.suite a0 ((a0, oe) :: pn)).env) :: starEach [c] (X.suite a0 ((a0, oe) :: pn)).env := by rfl) (he2 : starEach [c] (X.suite a0 ((a0, oe) :: pn)).env = (false, eval c (X.suite a0 ((a0, oe) :: pn)).env) :: starEach [] (X.suite a0 ((a0, oe) :: pn)).env := by rfl)
    (hpl : (backTo pos (starEach [c] (X.suite a0 ((a0, oe) :: pn)).env)).any (·.1) = false := by rfl) : PD (X.suite a0 ((a0, oe) :: pn)) (.Call (.Name "isinstance" p) [.Name n q, c] [] pos) ρ (.bool k) ρ :=
  PE_imp (pe_callB (call_isE xc hz.zc hf) hg hm rfl (pa_cons (pe_var hN hvis hd hcd) (pa_cons hc pa_nil he2) he) (by decide) (by decide) he hpl) fun σ H Q ⟨C, F, se, qq⟩ => by
    have h0 : σ[i]?.join = some (V.ref a0) := se.ok i _ hi
    exact ⟨.ref a0, join_some h0, vc, cv, k, rfl, hv, hk, qq _ F H (.refl _) se (.bl _)⟩
end
end G
namespace G
open PySem PySem.Spec PyProof.Rows L2
/-- a whole number in bounds -/
def isNum : PyData → Int → Int → Bool
  | .int i, l, m => decide (l ≤ i) && decide (i ≤ m)
  | _, _, _ => false
theorem isNum_int {i l m : Int} : isNum (.int i) l m = (decide (l ≤ i) && decide (i ≤ m)) := rfl
theorem isNum_inv {d : PyData} {l m : Int} (h : isNum d l m = true) : ∃ i, d = .int i ∧ l ≤ i ∧ i ≤ m := by
  cases d with
  | int i =>
    rw [isNum_int, Bool.and_eq_true] at h
    exact ⟨i, rfl, of_decide_eq_true h.1, of_decide_eq_true h.2⟩
  | _ => cases h
/-- its text is short -/
def Sml (i : Int) : Prop := (toString i : Str).length ≤ 1000 ∧ i.natAbs.log2 < 1920
theorem strlen_add (a b : Str) : (a ++ b).length = a.length + b.length := by
  show (a.cps ++ b.cps).size = _
  rw [Array.size_append]
  rfl
end G
namespace G
open PySem PySem.Spec PyProof.Rows L2
instance (i : Int) : Decidable (Sml i) := inferInstanceAs (Decidable (_ ∧ _))
theorem sml_of {n : Int} (h0 : 0 ≤ n) (h : n < 10 ^ 10) : Sml n := by
  refine ⟨?_, ?_⟩
  · have h1 := PyProof.Rows.toString_length_le h0 (show 0 < 10 by decide) h
    have h2 : ((toString n : String) : Str).length ≤ 10 := h1
    omega
  · exact Nat.lt_of_lt_of_le (PySem.Flt.log2_lt_of (k := 34) (by decide) (by omega)) (by decide)
end G

/-! GMore: sorted, in, reversed, insert, repetition. -/
namespace G
open PySem PySem.Spec PyProof.Rows L2
/-- ints in order -/
def srt (ns : List Int) : List Int := ns.mergeSort fun a b => decide (a ≤ b)
theorem srt_perm (ns : List Int) : (srt ns).Perm ns := List.mergeSort_perm ns _
theorem srt_ord (ns : List Int) : (srt ns).Pairwise (· ≤ ·) := by
  have h := List.pairwise_mergeSort (le := fun a b : Int => decide (a ≤ b)) (fun a b c h1 h2 => by simp only [decide_eq_true_eq] at h1 h2 ⊢; omega) (fun a b => by simp only [Bool.or_eq_true, decide_eq_true_eq]; omega) ns
  exact h.imp fun h => by simpa using h
theorem ord_one {a b : List Int} (hp : a.Perm b) (ha : a.Pairwise (· ≤ ·)) (hb : b.Pairwise (· ≤ ·)) : a = b :=
  hp.eq_of_pairwise (fun x y _ _ h1 h2 => Int.le_antisymm h1 h2) ha hb
theorem srt_of {a b : List Int} (hp : a.Perm b) (ha : a.Pairwise (· ≤ ·)) : a = srt b := ord_one (hp.trans (srt_perm b).symm) ha (srt_ord b)
theorem srt_mem {ns : List Int} {x : Int} : x ∈ srt ns ↔ x ∈ ns := (srt_perm ns).mem_iff
theorem srt_len (ns : List Int) : (srt ns).length = ns.length := (srt_perm ns).length_eq
theorem srt_srt (ns : List Int) : srt (srt ns) = srt ns := srt_of ((srt_perm _).trans (srt_perm ns)) (srt_ord _)
section
variable {X : Cx} {W : WX} {e a b c tg iter elt : Expr} {es : List Expr} {p pos pos' : Pos} {ρ ρ' ρ1 ρ2 ρ3 : En} {x y z : PyData} {st : Stmt} {rest A B body : List Stmt} {D : DE} {k k' : Bool} {i j : Int} {w : Str} {α β γ : Type} {f : α → PyData} {ns ms : List α}
theorem pn_sorted {ns : List Int} {src : Option Nat} (hm : X.mg ("sorted" : Str) = none) (h : PQ X a ρ src (ns.map .int) ρ1) (ok : SrcOk ρ1 src (ns.map .int)) (hg : Gl X "sorted" := by rfl) (he : starEach [a] X.env = (false, eval a X.env) :: starEach [] X.env := by rfl) : PN X (.Call (.Name "sorted" p) [a] [] pos) ρ (.l ((srt ns).map .int)) ρ1 :=
  PE_imp (pe_callB cr_sortedI hg hm rfl (pa_cons h pa_nil he) (by decide) (by decide) he) fun σ H Q ⟨C, F, se, q⟩ => ⟨C, F, se, fun v F1 H1 x1 e1 r1 => by
    obtain ⟨a, vs, rfl, l, rr⟩ := r1.look e1 ok
    rw [rr.ints_inv] at l
    refine ⟨_, ns, rfl, l, fun ns' p hp ho hn => ?_⟩
    obtain ⟨h1, h2, h3, h4⟩ := e1.lay (o := .lst (ns'.map .int)) hn
    rw [srt_of hp ho] at h1 ⊢
    exact q p F1 _ x1 h1 h2 h3 h4 ⟨_, upd_same, .ints _⟩⟩
theorem any_eqI {i : Int} : ∀ ns : List Int, inV (.int i) (ns.map V.int) = decide (i ∈ ns)
  | [] => rfl
  | n :: ns => by
    have ih := any_eqI (i := i) ns
    unfold inV at ih ⊢
    rw [List.map_cons, List.any_cons, ih]
    have : eqV (.int n) (.int i) = decide (n = i) := rfl
    rw [this]
    by_cases h : n = i
    · subst h; simp
    · have : ¬ i = n := fun z => h z.symm
      by_cases h2 : i ∈ ns <;> simp [h, this, h2]
theorem flat_ints : ∀ ns : List Int, (ns.map V.int).all flatV = true
  | [] => rfl
  | n :: ns => by rw [List.map_cons, List.all_cons, flat_ints ns]; rfl
theorem td_inI {ns : List Int} {src : Option Nat} (ha : PD X a ρ (.int i) ρ1) (hb : PQ X b ρ1 src (ns.map .int) ρ2) (ok : SrcOk ρ2 src (ns.map .int)) (hm : behindInMarks .In b = false := by rfl) : TD X (.Compare a [.In] [b] pos) ρ (decide (i ∈ ns)) ρ2 :=
  PT_imp (pt_cmpR op_in_seq ha hb hm) fun σ H Q ⟨C, F, se, q⟩ => ⟨C, F, se, fun v F1 H1 x1 e1 r1 => ⟨C, F1, e1, fun w F2 H2 x2 e2 r2 => by
    obtain ⟨p, vs, rfl, l, rr⟩ := r2.look e2 ok
    rw [rr.ints_inv] at l
    rw [rp_int r1]
    refine ⟨p, _, rfl, .inl l, rfl, flat_ints ns, ?_⟩
    rw [show (if false = true then _ else inV (.int i) (ns.map V.int)) = inV (.int i) (ns.map V.int) from rfl, any_eqI]
    exact ⟨_, rfl, q F2 H2 (x1.trans x2) e2⟩⟩⟩
theorem pd_inI {ns : List Int} {src : Option Nat} (ha : PD X a ρ (.int i) ρ1) (hb : PQ X b ρ1 src (ns.map .int) ρ2) (ok : SrcOk ρ2 src (ns.map .int)) (hm : behindInMarks .In b = false := by rfl) : PD X (.Compare a [.In] [b] pos) ρ (.bool (decide (i ∈ ns))) ρ2 :=
  PE_imp (pe_cmpR op_in_seq ha hb hm) fun σ H Q ⟨C, F, se, q⟩ => ⟨C, F, se, fun v F1 H1 x1 e1 r1 => ⟨C, F1, e1, fun w F2 H2 x2 e2 r2 => by
    obtain ⟨p, vs, rfl, l, rr⟩ := r2.look e2 ok
    rw [rr.ints_inv] at l
    rw [rp_int r1]
    refine ⟨p, _, rfl, .inl l, rfl, flat_ints ns, ?_⟩
    rw [show (if false = true then _ else inV (.int i) (ns.map V.int)) = inV (.int i) (ns.map V.int) from rfl, any_eqI]
    exact q _ F2 H2 (x1.trans x2) e2 (.bl _)⟩⟩
theorem td_notinI {ns : List Int} {src : Option Nat} (ha : PD X a ρ (.int i) ρ1) (hb : PQ X b ρ1 src (ns.map .int) ρ2) (ok : SrcOk ρ2 src (ns.map .int)) (hm : behindInMarks .NotIn b = false := by rfl) : TD X (.Compare a [.NotIn] [b] pos) ρ (!decide (i ∈ ns)) ρ2 :=
  PT_imp (pt_cmpR op_notIn_seq ha hb hm) fun σ H Q ⟨C, F, se, q⟩ => ⟨C, F, se, fun v F1 H1 x1 e1 r1 => ⟨C, F1, e1, fun w F2 H2 x2 e2 r2 => by
    obtain ⟨p, vs, rfl, l, rr⟩ := r2.look e2 ok
    rw [rr.ints_inv] at l
    rw [rp_int r1]
    refine ⟨p, _, rfl, .inl l, rfl, flat_ints ns, ?_⟩
    rw [show (if true = true then !inV (.int i) (ns.map V.int) else inV (.int i) (ns.map V.int)) = !inV (.int i) (ns.map V.int) from rfl, any_eqI]
    exact ⟨_, rfl, q F2 H2 (x1.trans x2) e2⟩⟩⟩
theorem pd_notinI {ns : List Int} {src : Option Nat} (ha : PD X a ρ (.int i) ρ1) (hb : PQ X b ρ1 src (ns.map .int) ρ2) (ok : SrcOk ρ2 src (ns.map .int)) (hm : behindInMarks .NotIn b = false := by rfl) : PD X (.Compare a [.NotIn] [b] pos) ρ (.bool (!decide (i ∈ ns))) ρ2 :=
  PE_imp (pe_cmpR op_notIn_seq ha hb hm) fun σ H Q ⟨C, F, se, q⟩ => ⟨C, F, se, fun v F1 H1 x1 e1 r1 => ⟨C, F1, e1, fun w F2 H2 x2 e2 r2 => by
    obtain ⟨p, vs, rfl, l, rr⟩ := r2.look e2 ok
    rw [rr.ints_inv] at l
    rw [rp_int r1]
    refine ⟨p, _, rfl, .inl l, rfl, flat_ints ns, ?_⟩
    rw [show (if true = true then !inV (.int i) (ns.map V.int) else inV (.int i) (ns.map V.int)) = !inV (.int i) (ns.map V.int) from rfl, any_eqI]
    exact q _ F2 H2 (x1.trans x2) e2 (.bl _)⟩⟩
/-- for x in reversed(xs), xs data -/
theorem id_rev {xs : List PyData} (hm : X.mg ("reversed" : Str) = none) (h : PD X e ρ (.list xs) ρ') (hg : Gl X "reversed" := by rfl) (hs : starEach [e] X.env = (false, eval e X.env) :: starEach [] X.env := by rfl) : ID X tg (.Call (.Name "reversed" p) [e] [] pos) ρ xs.reverse (fun _ => True) none ρ' :=
  PI_imp (RT.pi_revA hg hm h hs) fun σ H R ⟨C, F, se, q⟩ => ⟨C, F, se, fun v F1 H1 x1 e1 r1 => by
    cases r1 with
    | @lst a vs _ l rr =>
      refine ⟨a, vs, rfl, .inl ⟨e1.fr.ext.l l, q _ F1 H1 x1 e1 ?_⟩⟩
      have hl := rr.length
      refine ⟨fun i C F H σ ρ x se _ _ hi => ?_, fun C F H σ ρ x se _ _ => ?_, fun i C F H σ ρ v H1 x se _ _ hi hy => ?_⟩
      · rw [List.length_reverse] at hi
        obtain ⟨v, hv⟩ : ∃ v, vs[vs.length - 1 - i]? = some v := ⟨_, List.getElem?_eq_getElem (by omega)⟩
        exact ⟨by omega, vs, v, (x.trans se.fr.ext).l l, hv⟩
      · rw [List.length_reverse]
        show vs.length ≤ xs.length
        omega
      · rw [List.length_reverse] at hi
        obtain ⟨rfl, hy⟩ := hy
        have hv := hy vs ((x.trans se.fr.ext).l l)
        obtain ⟨d, hd, rd⟩ := rr.getV hv
        refine ⟨d, F, ?_, .refl _, se, rd.mono x⟩
        rw [List.getElem?_reverse hi, ← hd, hl]⟩
/-- o.insert(i, x), o a name that owns its list -/
theorem sd_insert (i : Nat) {o : Str} {p1 p2 p3 : Pos} {pa pb : Option Addr} {ys xs : List PyData} {n : Nat} (h0 : ρ[i]? = some (.o pa (.l ys))) (ha : PD X a ρ (.int (n : Int)) ρ1) (he : PD X e ρ1 x ρ2) (h1 : ρ2[i]? = some (.o pb (.l xs))) (hn : n < 2 ^ 62) (hl : xs.length < 100000) (h : D.nx (ρ2.set i (.o pb (.l (xs.take n ++ [x] ++ xs.drop n)))))
    (hN : X.N[i]? = some o := by rfl) (hv : Vis X.env.scope o := by first | exact Or.inl rfl | exact Or.inr (Or.inl rfl) | exact Or.inr (Or.inr rfl)) (hd : (o == ("__debug__" : Str)) = false := by decide) (hcd : (o == ("__classdict__" : Str)) = false := by decide)
    (hbase : attributeBase (.Name o p1) "insert" X.env (eval (.Name o p1) X.env) = eval (.Name o p1) X.env := by rfl)
    (hfew : ((backTo p3 (starEach [a, e] X.env)).all (fun x => !x.1) && (backToKw p3 (keywordEach [] X.env)).all (fun x => x.1.isSome)
      && decide ([a, e].length + ([] : List Keyword).length + (if ([] : List Keyword).isEmpty then 0 else 1) < 30)) = true := by rfl)
    (hline : (p2.endLine == p3.line) = true := by rfl) (hs : starEach [a, e] X.env = (false, eval a X.env) :: starEach [e] X.env := by rfl) (hs2 : starEach [e] X.env = (false, eval e X.env) :: starEach [] X.env := by rfl)
    (hany : (backTo p3 (starEach [e] X.env)).any (fun x => x.1) = false := by rfl) (hsw : swapsWith (.Call (.Attribute (.Name o p1) "insert" p2) [a, e] [] p3) none pos.line X.env = pure false := by rfl) :
    SD X W (.Expr (.Call (.Attribute (.Name o p1) "insert" p2) [a, e] [] p3) pos) ρ D := by
  refine PS_imp (ps_expr (pe_bm PySem.F.plainAttrs_list PySem.F.slot_list_insert PySem.F.type_list_insert mt_insert (pe_var hN hv hd hcd) (pa_cons ha (pa_cons he pa_nil hs2) hs) hbase hfew hline hs hany) hsw) fun E σ H ⟨C, F, se, cv⟩ => ?_
  obtain ⟨l, a1, _, ⟨vs, a2, a3⟩, a4⟩ := se.getO h0
  refine ⟨.ref l, a1, .inl ⟨rfl, vs, SqL.of a2⟩, C, F, se, fun u F1 H1 x1 e1 r1 => ⟨C, F1, e1, fun v F2 H2 x2 e2 r2 => ?_⟩⟩
  obtain ⟨l', b1, _, ⟨us, b2, b3⟩, b4⟩ := e2.getO h1
  rw [a1] at b1
  cases b1
  rw [rp_int r1]
  refine ⟨l, us, n, v, rfl, rfl, b2, by rw [b3.length]; exact line_lt hl, by omega, by omega, cv.nx _ F2 _ _ h ?_⟩
  rw [Int.toNat_natCast]
  exact e2.wr h1 a1 ⟨_, upd_same, ((b3.take n).append (.cons r2 .nil)).append (b3.drop n)⟩
theorem rpa_rep {K : PySem.W.Frag} {F : Hp} {us : List V} {xs : List PyData} (u : RpA K F us xs) : ∀ n : Nat, RpA K F (List.replicate n us).flatten (List.replicate n xs).flatten
  | 0 => .nil
  | m + 1 => by rw [List.replicate_succ, List.replicate_succ, List.flatten_cons, List.flatten_cons]; exact u.append (rpa_rep u m)
/-- [x, ..] * n, a new list -/
theorem pn_rep {xs : List PyData} {n : Nat} (ha : AD X es ρ xs ρ1) (hb : PD X b ρ1 (.int (n : Int)) ρ2) (hl : xs.length * n ≤ 100000) (hn : n < 2 ^ 62) (hx : xs.length ≤ 100000 := by exact Nat.le_of_ble_eq_true rfl) (hr : ∀ F H F' H' : Hp, True := by intros; trivial) : PN X (.BinOp (.List es pos') .Mult b pos) ρ (.l (List.replicate n xs).flatten) ρ2 :=
  PE_imp (pe_op op_rep (pn_lst ha hx) hb) fun σ H Q ⟨C, F, se, q⟩ => ⟨C, F, se, fun p F1 H1 x1 e1 f1 c1 o1 w1 => by
    obtain ⟨us, u1, u2⟩ := w1
    refine ⟨C.pin F1 p (.lst us), F1, e1.pin c1 u1 o1, fun w F2 H2 x2 e2 r2 => ?_⟩
    obtain ⟨e3, f3, g3, o3⟩ := e2.unpin e1.fr c1 f1
    rw [rp_int r2]
    refine ⟨p, n, us, rfl, rfl, g3, by omega, by omega, by rw [u2.length, Int.toNat_natCast]; exact line_of hl, fun t ht => ?_⟩
    obtain ⟨h1, h2, h3, h4⟩ := e3.lay (o := .lst (List.replicate n us).flatten) ht
    rw [Int.toNat_natCast]
    refine q t F2 _ (x1.trans x2) h1 h2 h3 h4 ⟨_, upd_same, ?_⟩
    exact rpa_rep (u2.mono x2) n⟩
end
end G

namespace G
open PySem PySem.Spec PyProof.Rows L2
theorem drawS (p : Pool) {n : Int} (h : 0 < n) (h2 : n < 1073741824) : ∃ (v : Int) (q : Pool), SDraw (pl p) [.int n] (.int v) (pl q) ∧ 0 ≤ v ∧ v < n :=
  ⟨_, _, ⟨p, n, _, rfl, rfl, ⟨h, h2⟩, rfl, rfl, rfl⟩, draw_bd p h⟩
theorem pickS {α : Type} [Inhabited α] (p : Pool) (ns : List α) (f : α → PyData) (h : 0 < ns.length) (h2 : ns.length < 100000) : ∃ (x : α) (q : Pool), x ∈ ns ∧ SPick (pl p) [.list (ns.map f)] (f x) (pl q) := by
  have b := draw_bd p (n := (ns.length : Int)) (by omega)
  refine ⟨gI ns (drawP p ns.length).1, (drawP p ns.length).2, gI_mem ⟨by omega, b.2⟩, p, ns.map f, drawP p ns.length, rfl, rfl, ⟨by rw [List.length_map]; exact h, by rw [List.length_map]; exact h2⟩, by rw [List.length_map], ?_, rfl⟩
  rw [List.getElem?_map]
  unfold gI
  rw [if_neg (by omega)]
  have hlt : (drawP p ns.length).1.toNat < ns.length := by omega
  rw [List.getElem?_eq_getElem hlt, getElem!_pos ns _ hlt]
  rfl
theorem range_at {n i a : Nat} (h : (List.range n)[i]? = some a) : i = a ∧ a < n := by
  have hi : i < (List.range n).length := by
    rcases Nat.lt_or_ge i (List.range n).length with c | c
    · exact c
    · rw [List.getElem?_eq_none c] at h; cases h
  rw [List.getElem?_eq_getElem hi] at h
  rw [List.length_range] at hi
  simp at h
  exact ⟨h, by omega⟩
theorem nice_opt {α : Type} {d : Nat} {f : α → PyData} {o : Option α} (h : ∀ a, Nice d (f a)) : Nice d (dO f o) := by
  cases o with
  | none => exact .non
  | some a => exact h a
theorem nice_all {α : Type} {d : Nat} {f : α → PyData} {xs : List α} (h : ∀ a, a ∈ xs → Nice d (f a)) : ∀ x ∈ xs.map f, Nice d x := fun x hx => by
  obtain ⟨a, ha, rfl⟩ := List.mem_map.mp hx
  exact h a ha
theorem nice_t2 {d : Nat} {x y : PyData} (h : Nice d x) (h2 : Nice d y) : Nice (d + 1) (.tuple [x, y]) := .tup (by simp) fun z hz => by
  simp at hz
  rcases hz with rfl | rfl <;> assumption
theorem nice_t3 {d : Nat} {x y u : PyData} (h : Nice d x) (h2 : Nice d y) (h3 : Nice d u) : Nice (d + 1) (.tuple [x, y, u]) := .tup (by simp) fun z hz => by
  simp at hz
  rcases hz with rfl | rfl | rfl <;> assumption
theorem scan_mem2 {S α β : Type} (step : S → α → S) (keep : S → α → Bool) (val : S → α → β) (P : β → Prop) (h : ∀ s a, P (val s a)) : ∀ (xs : List α) (s : S), ∀ y ∈ scanV step keep val s xs, P y
  | [], _, y, hy => by cases hy
  | a :: xs, s, y, hy => by
    unfold scanV at hy
    split at hy
    · rcases List.mem_cons.mp hy with e | e
      · rw [e]; exact h s a
      · exact scan_mem2 step keep val P h xs _ y e
    · exact scan_mem2 step keep val P h xs _ y hy
theorem scan_len {S α β : Type} (step : S → α → S) (keep : S → α → Bool) (val : S → α → β) (h : ∀ s a, keep s a = true) : ∀ (xs : List α) (s : S), (scanV step keep val s xs).length = xs.length
  | [], _ => rfl
  | a :: xs, s => by
    unfold scanV
    rw [if_pos (h s a), List.length_cons, List.length_cons, scan_len step keep val h xs]
theorem dO_get {α : Type} {f : α → PyData} {d : α} {o : Option α} (h : o.isNone = false) : dO f o = f (o.getD d) := by
  cases o with
  | none => cases h
  | some a => rfl
theorem dO_all {xs : List (Option Int)} (h : ∀ o ∈ xs, o.isNone = false) : xs.map (dO PyData.int) = (xs.map (fun o : Option Int => o.getD 0)).map PyData.int := by
  rw [List.map_map]
  exact List.map_congr_left fun o ho => dO_get (h o ho)
/-- list.insert -/
def insI {α : Type} (xs : List α) (i : Int) (v : α) : List α := xs.take i.toNat ++ [v] ++ xs.drop i.toNat
theorem insI_perm {α : Type} (xs : List α) (i : Int) (v : α) : (insI xs i v).Perm (v :: xs) := by
  unfold insI
  have h := (List.perm_append_comm (l₁ := xs.take i.toNat) (l₂ := [v])).append_right (xs.drop i.toNat)
  rw [List.append_assoc [v], List.take_append_drop] at h
  exact h
section
variable {X : Cx} {W : WX} {e a b c tg iter elt : Expr} {es : List Expr} {p pos pos' : Pos} {ρ ρ' ρ1 ρ2 ρ3 : En} {x y z : PyData} {st : Stmt} {rest A B body : List Stmt} {D : DE} {k k' : Bool} {i j : Int} {w : Str} {α β γ : Type} {ns ms : List α}
theorem pn_ift (f : α → PyData) {u v : List α} {ct : Ct} (hc : TD X c ρ k ρ1) (hct : Ct.l ((if k = true then u else v).map f) = ct) (ha : k = true → PN X a ρ1 (.l (u.map f)) ρ2) (hb : k = false → PN X b ρ1 (.l (v.map f)) ρ2) : PN X (.IfExp c a b pos) ρ ct ρ2 := by
  subst hct
  cases k with
  | true =>
    have hb' : PE X b (fun _ _ _ => False) := ⟨fun _ _ _ _ _ _ h => h.elim⟩
    exact PE_imp (pe_ifExp hc (ha rfl) hb') fun σ H Q ⟨C, F, se, q⟩ => ⟨C, F, se, fun F1 H1 x1 e1 => by
      refine iteT ?_
      exact ⟨C, F1, e1, fun w F2 H2 x2 => q w F2 H2 (x1.trans x2)⟩⟩
  | false =>
    have ha' : PE X a (fun _ _ _ => False) := ⟨fun _ _ _ _ _ _ h => h.elim⟩
    exact PE_imp (pe_ifExp hc ha' (hb rfl)) fun σ H Q ⟨C, F, se, q⟩ => ⟨C, F, se, fun F1 H1 x1 e1 => by
      refine iteF ?_
      exact ⟨C, F1, e1, fun w F2 H2 x2 => q w F2 H2 (x1.trans x2)⟩⟩
theorem id_revM {f : α → PyData} (hm : X.mg ("reversed" : Str) = none) (h : PD X e ρ (.list (ns.map f)) ρ') (hg : Gl X "reversed" := by rfl) (hs : starEach [e] X.env = (false, eval e X.env) :: starEach [] X.env := by rfl) : ID X tg (.Call (.Name "reversed" p) [e] [] pos) ρ (ns.reverse.map f) (fun _ => True) none ρ' := by
  rw [List.map_reverse]
  exact id_rev hm h hg hs
theorem pn_rep1 {f : α → PyData} {v : α} {n : Int} (ha : PD X a ρ (f v) ρ1) (hb : PD X b ρ1 (.int n) ρ2) (hn : 0 ≤ n ∧ n ≤ 100000) (hs : starEach [a] X.env = (false, eval a X.env) :: starEach [] X.env := by rfl) : PN X (.BinOp (.List [a] pos') .Mult b pos) ρ (.l ((List.replicate n.toNat v).map f)) ρ2 := by
  obtain ⟨m, rfl⟩ : ∃ m : Nat, n = m := ⟨n.toNat, by omega⟩
  have h := pn_rep (pos := pos) (pos' := pos') (n := m) (ad_one ha hs) hb (by simp; omega) (by omega)
  rw [Int.toNat_natCast]
  refine pn_cast ?_ h
  congr 1
  rw [List.map_replicate]
  clear h hb hn
  induction m with
  | zero => rfl
  | succ m ih => rw [List.replicate_succ, List.flatten_cons, ih, List.replicate_succ]; rfl
theorem sd_insertM {f : α → PyData} {v : α} {n : Int} {o : Str} {p1 p2 p3 : Pos} {pa pb : Option Addr} {ys : List PyData} (i : Nat) (h0 : ρ[i]? = some (.o pa (.l ys))) (ha : PD X a ρ (.int n) ρ1) (he : PD X e ρ1 (f v) ρ2) (h1 : ρ2[i]? = some (.o pb (.l (ns.map f)))) (hn : 0 ≤ n ∧ n < 2 ^ 62) (hl : ns.length < 100000) (h : D.nx (ρ2.set i (.o pb (.l ((insI ns n v).map f)))))
    (hN : X.N[i]? = some o := by rfl) (hv : Vis X.env.scope o := by first | exact Or.inl rfl | exact Or.inr (Or.inl rfl) | exact Or.inr (Or.inr rfl)) (hd : (o == ("__debug__" : Str)) = false := by decide) (hcd : (o == ("__classdict__" : Str)) = false := by decide)
    (hbase : attributeBase (.Name o p1) "insert" X.env (eval (.Name o p1) X.env) = eval (.Name o p1) X.env := by rfl)
    (hfew : ((backTo p3 (starEach [a, e] X.env)).all (fun x => !x.1) && (backToKw p3 (keywordEach [] X.env)).all (fun x => x.1.isSome)
      && decide ([a, e].length + ([] : List Keyword).length + (if ([] : List Keyword).isEmpty then 0 else 1) < 30)) = true := by rfl)
    (hline : (p2.endLine == p3.line) = true := by rfl) (hs : starEach [a, e] X.env = (false, eval a X.env) :: starEach [e] X.env := by rfl) (hs2 : starEach [e] X.env = (false, eval e X.env) :: starEach [] X.env := by rfl)
    (hany : (backTo p3 (starEach [e] X.env)).any (fun x => x.1) = false := by rfl) (hsw : swapsWith (.Call (.Attribute (.Name o p1) "insert" p2) [a, e] [] p3) none pos.line X.env = pure false := by rfl) :
    SD X W (.Expr (.Call (.Attribute (.Name o p1) "insert" p2) [a, e] [] p3) pos) ρ D := by
  obtain ⟨m, rfl⟩ : ∃ m : Nat, n = m := ⟨n.toNat, by omega⟩
  refine sd_insert (n := m) i h0 ha he h1 (by omega) (by rw [List.length_map]; exact hl) ?_ hN hv hd hcd hbase hfew hline hs hs2 hany hsw
  unfold insI at h
  rw [Int.toNat_natCast, List.map_append, List.map_append, List.map_take, List.map_drop] at h
  exact h
theorem sd_forM (xs : List α) (td : α → PyData) (I : Nat → En → Prop) {ok : En → Prop} (hp : PassesOwn (model X.prog X.w) X.A X.env X.xe) (hc : X.calm = true) (hi : ID X tg iter ρ (xs.map td) ok none ρ1) (h0 : Lee (I 0) ρ1) (hok : ∀ i ρ', I i ρ' → ok ρ')
    (hs : ∀ i a ρ', xs[i]? = some a → I i ρ' → ∃ ρ2, GD X tg (td a) ρ' ρ2 ∧ BD X W body ρ2 { D with nx := Lee (I (i + 1)), ct := Lee (I (i + 1)), bk := D.nx }) (hd : ∀ ρ', I xs.length ρ' → D.nx ρ')
    (hf : ∀ x, foldedSetIterable iter X.env x = pure x := by intro _; rfl) : SD X W (.For tg iter body [] pos) ρ D :=
  sd_for I hp hc hi h0 hok (fun i d ρ' h hI => by
    rw [List.getElem?_map] at h
    obtain ⟨a, ha, rfl⟩ := Option.map_eq_some_iff.mp h
    exact hs i a ρ' ha hI) (fun ρ' h => hd ρ' (by rw [List.length_map] at h; exact h)) hf
theorem pd_notN {k} {p' : Pos} (ha : PD X a ρ x ρ1) : PD X (.Compare a [.IsNot] [.Constant .none k p'] pos) ρ (.bool (!isNone x)) ρ1 :=
  pd_cmp (op_notN) (fun F H v w Q e r1 r2 q => ⟨rp_non r2, q _ F H (.refl e) (by rw [isNone_v r1]; exact .bl _)⟩) ha pd_non (nomark _)
/-- x, y = a, b -/
theorem sd_par2 (i j : Nat) {x' y' : Str} {px py pt : Pos} {kt k2 : Nat} {pt2 : Pos} (ha : AD X [a, b] ρ [x, y] ρ1) (h : D.nx ((ρ1.set i (.d x)).set j (.d y))) (hN : X.N.Nodup) (hc : X.calm = true := by rfl) (hi : X.N[i]? = some x' := by rfl) (hj : X.N[j]? = some y' := by rfl) (hij : i ≠ j := by decide)
    (hx : X.env.scope.names.lookup x' = some .local := by rfl) (hy : X.env.scope.names.lookup y' = some .local := by rfl)
    (hw : swappedStores [.Tuple [.Name x' px, .Name y' py] kt pt] (.Tuple [a, b] k2 pt2) X.env = pure (some [x', y']) := by rfl)
    (hs : swapsWithSole [.Tuple [.Name x' px, .Name y' py] kt pt] (.Tuple [a, b] k2 pt2) pos.line X.env = pure false := by rfl) :
    SD X W (.Assign [.Tuple [.Name x' px, .Name y' py] kt pt] (.Tuple [a, b] k2 pt2) pos) ρ D :=
  PS_imp (ps_par hc hN hi hj hij hx hy ha hw hs) fun E σ H ⟨C, F, se, cv⟩ => ⟨C, F, se, fun vs F1 H1 x1 e1 r1 => by
    cases r1 with
    | cons r1 r2 => cases r2 with
      | cons r2 r3 =>
        cases r3
        exact ⟨_, _, rfl, cv.nx _ F1 H1 _ h ((e1.setD r1).setD r2)⟩⟩
theorem sd_par3 (i j l : Nat) {x' y' z' : Str} {px py pz pt : Pos} {kt k2 : Nat} {pt2 : Pos} (ha : AD X [a, b, c] ρ [x, y, z] ρ1) (h : D.nx (((ρ1.set i (.d x)).set j (.d y)).set l (.d z))) (hN : X.N.Nodup) (hc : X.calm = true := by rfl) (hi : X.N[i]? = some x' := by rfl) (hj : X.N[j]? = some y' := by rfl) (hl : X.N[l]? = some z' := by rfl) (hij : i ≠ j := by decide) (hil : i ≠ l := by decide) (hjl : j ≠ l := by decide)
    (hx : X.env.scope.names.lookup x' = some .local := by rfl) (hy : X.env.scope.names.lookup y' = some .local := by rfl) (hz : X.env.scope.names.lookup z' = some .local := by rfl)
    (hw : swappedStores [.Tuple [.Name x' px, .Name y' py, .Name z' pz] kt pt] (.Tuple [a, b, c] k2 pt2) X.env = pure (some [x', y', z']) := by rfl)
    (hs : swapsWithSole [.Tuple [.Name x' px, .Name y' py, .Name z' pz] kt pt] (.Tuple [a, b, c] k2 pt2) pos.line X.env = pure false := by rfl) :
    SD X W (.Assign [.Tuple [.Name x' px, .Name y' py, .Name z' pz] kt pt] (.Tuple [a, b, c] k2 pt2) pos) ρ D :=
  PS_imp (ps_par3 hc hN hi hj hl hij hil hjl hx hy hz ha hw hs) fun E σ H ⟨C, F, se, cv⟩ => ⟨C, F, se, fun vs F1 H1 x1 e1 r1 => by
    cases r1 with
    | cons r1 r2 => cases r2 with
      | cons r2 r3 => cases r3 with
        | cons r3 r4 =>
          cases r4
          exact ⟨_, _, _, rfl, cv.nx _ F1 H1 _ h (((e1.setD r1).setD r2).setD r3)⟩⟩
end
end G

/-! GNest: a comprehension in a comprehension. -/
namespace G
open PySem PySem.Spec PyProof.Rows L2
theorem lookup_relab {env : Env} : ∀ {names : List (Str × NameKind)} {x : Str} {c : NameKind}, names.lookup x = some c →
    (names.map fun (n, k) => if (k == NameKind.free && env.scope.kind == .function && env.kindOf n == some .cell) then (n, NameKind.cell) else (n, k)).lookup x = some c ∨ (c = .free ∧ (names.map fun (n, k) => if (k == NameKind.free && env.scope.kind == .function && env.kindOf n == some .cell) then (n, NameKind.cell) else (n, k)).lookup x = some .cell)
  | [], _, _, h => by simp at h
  | (n, k) :: r, x, c, h => by
    have ih := @lookup_relab env r x c
    show List.lookup x ((if (k == NameKind.free && env.scope.kind == .function && env.kindOf n == some .cell) = true then (n, NameKind.cell) else (n, k)) :: _) = _ ∨ (_ ∧ List.lookup x ((if (k == NameKind.free && env.scope.kind == .function && env.kindOf n == some .cell) = true then (n, NameKind.cell) else (n, k)) :: _) = _)
    cases hx : x == n with
    | true =>
      simp only [List.lookup_cons, hx] at h
      cases h
      by_cases hc : (k == NameKind.free && env.scope.kind == .function && env.kindOf n == some .cell) = true
      · rw [if_pos hc]
        right
        have h1 := (Bool.and_eq_true_iff.mp (Bool.and_eq_true_iff.mp hc).1).1
        refine ⟨?_, by simp only [List.lookup_cons, hx]⟩
        revert h1
        cases k <;> intro z <;> first | rfl | (exact absurd z (by decide))
      · rw [if_neg hc]
        left
        simp only [List.lookup_cons, hx]
    | false =>
      simp only [List.lookup_cons, hx] at h
      by_cases hc : (k == NameKind.free && env.scope.kind == .function && env.kindOf n == some .cell) = true
      · rw [if_pos hc]; simp only [List.lookup_cons, hx]; exact ih h
      · rw [if_neg hc]; simp only [List.lookup_cons, hx]; exact ih h
instance : Inhabited PyData := ⟨.none⟩
theorem blkOk_in {N : List Str} {sc0 scope : Scope} {own : List (Str × Nat)} {cl : List (Str × Addr)} {C : Addr} {env : Env} (h : blkC N sc0 scope own = true) : BlkOk N (compEnvC sc0 cl C env).scope scope own := by
  have b := blkOk_by h
  refine ⟨b.kind, b.uniq, b.ix, fun y hy e => ?_, b.own⟩
  have key : ∀ c, sc0.names.lookup y.1 = some c → (compEnvC sc0 cl C env).scope.names.lookup y.1 = some c ∨ (c = .free ∧ (compEnvC sc0 cl C env).scope.names.lookup y.1 = some .cell) := fun c hc => lookup_relab (names := sc0.names) hc
  rcases b.free y hy e with z | z
  · rcases key _ z with q | q
    · exact .inl q
    · cases q.1
  · rcases key _ z with q | q
    · exact .inr q
    · exact .inl q.2
end G

/-! GHot: a list comprehension over a range, while an exception is handled. -/
namespace G
open PySem PySem.Spec PyProof.Rows L2
/-- the block's context keeps the pins: the handled exception is one of them -/
abbrev blkH (X : Cx) (s : Shared) (H : Hp) (scope : Scope) (ce : Env) (fr : List Addr) : Cx := (X.blk s H scope ce fr).tr X.pn (fun _ _ => False)
abbrev ceOf (X : Cx) (scope : Scope) (n : Nat) : Env := compEnvC scope (cellsFrom (n + 1) scope.names (cloFrom X.env.cells scope.names [])) n X.env
section
variable {X : Cx} {pins : List (Addr × Obj)} {σ : L2.St} {H : Hp} {s : Shared} {scope : Scope} {own : List (Str × Nat)} {elt tg iter : Expr} {ifs : List Expr} {wi : TI} {g : TG} {tt : TT} {te : TE}
theorem startH {fr : List Addr} (I : Inv X pins σ H s) (bo : BlkOk X.N X.env.scope scope own) (hN : X.N.Nodup) (hf : ∀ b ∈ fr, FpOk X pins H b ∧ b < s.heap.objs.size) :
    Inv (blkH X s H scope (ceOf X scope s.heap.objs.size) fr) [] (wipe σ (own.map (·.2))) H { s with heap := pushCells (s.heap.push { cls := .type "dict", data := .dict #[] }) scope.names } := by
  have B := block_start I bo hN hf
  refine ⟨B.ok.toTry _ _, B.os, B.bare, B.base, B.loc, B.cell, B.free, B.freeC, fun p hp => ?_, B.hok, B.len⟩
  have hp : p ∈ X.pn := by simpa using hp
  obtain ⟨p1, p2, p3, p4, p5⟩ := I.pin p (List.mem_append_left _ hp)
  refine ⟨pushCells_keeps _ _ _ _ (Heap.get?_push_of_some _ p1), p2, Nat.ne_of_lt (Heap.lt_size p1), fun z => ?_, p5⟩
  rcases List.mem_cons.mp (I.stkSub _ z) with e | e
  · exact p3 e
  · exact p4 e
theorem lc_hot {Q : VK} {pos pos' : Pos} {use : Option (Value → Sem Unit)} {Qf : Value → Shared → Prop} (hot : L2H.HotC X) (hN : X.N.Nodup) (I : Inv X pins σ H s) (hi : L2H.PIH X tg iter wi) (bo : BlkOk X.N X.env.scope scope own)
    (hg : ∀ (s : Shared) (H : Hp) (C : Addr) (cl : List (Str × Addr)) (fr : List Addr), PG (blkH X s H scope (compEnvC scope cl C X.env) fr) tg g)
    (ht : ∀ (s : Shared) (H : Hp) (C : Addr) (cl : List (Str × Addr)) (fr : List Addr), PTs (blkH X s H scope (compEnvC scope cl C X.env) fr) ifs tt)
    (he : ∀ (s : Shared) (H : Hp) (C : Addr) (cl : List (Str × Addr)) (fr : List Addr), PE (blkH X s H scope (compEnvC scope cl C X.env) fr) elt te)
    (hfold : ∀ x, foldedSetIterable iter X.env x = pure x) (h : tLc wi g tt te (own.map (·.2)) σ H Q)
    (hEnd : ∀ L C s' m H', Inv X pins σ H' s' → Q (.ref L) H' → s'.heap.Ns C m → FpOk X pins H' C → compPost (model X.prog X.w) X.A X.xe use Qf (.ref L) C (.ok .next) s') :
    wpAny (model X.prog X.w) X.A (comprehension (.ListComp elt [⟨tg, iter, ifs, 0⟩] scope pos) scope X.env pos' (newList []) false (eval iter X.env) use) Qf X.xe s := by
  have frees : ∀ y ∈ scope.names, y.2 = .free → ∃ c, X.env.cells.lookup y.1 = some c := fun y hy e => (bo.free y hy e).elim (fun k => I.ok.has _ (.inl k)) (fun k => I.ok.has _ (.inr k))
  refine wpAny_comprehension_free (use := use) rfl hfold (closure_ok frees) bo.kind (fun y hy e => (bo.uniq y hy).trans (congrArg some e))
    (thn (hi.run pins s σ H _ I h) fun xv s1 hx => thn hx fun iv s2 ⟨it, fr, tr, J, H2, ev, I2, T, t2, fk2, q⟩ => ?_)
  subst ev
  refine wpAny_newObj_type (newEnv_comp ?_) (by show 0 ≤ sizeLine; decide)
  generalize eL : s2.heap.objs.size = L
  have fresh : H2 L = none := I2.hok.fresh (Nat.le_of_eq eL)
  obtain ⟨W, ⟨m0, w0⟩, turn⟩ := q L fresh
  generalize e3 : ({ s2 with heap := s2.heap.push { cls := .type "list", data := .seq ([] : List Value).toArray } } : Shared) = s3
  have hp3 : s3.heap = s2.heap.push { cls := .type "list", data := .seq ([] : List Value).toArray } := by rw [← e3]
  have I3 : Inv X pins σ (upd H2 L (.lst [])) s3 := by
    rw [← e3]
    exact I2.laid (t' := s2.toks) (fun b o e => Heap.get?_push_of_some _ e) (Nat.le_of_eq eL) ⟨Nat.zero_le _, [], 0, .nil, by rw [← eL]; exact Heap.get?_push_size _ rfl⟩
  have small : ∀ b ∈ fr, b < s2.heap.objs.size := fun b hb => (T.obj _ _ t2 b hb).elim fun o e => Heap.lt_size e.1
  have fk3 : ∀ b ∈ fr, FpOk X pins (upd H2 L (.lst [])) b ∧ b < s3.heap.objs.size := fun b hb =>
    ⟨⟨by rw [upd_ne (by rw [← eL]; exact Nat.ne_of_lt (small b hb))]; exact (fk2 b hb).1, (fk2 b hb).2⟩, by rw [hp3, Heap.size_push]; exact Nat.lt_succ_of_lt (small b hb)⟩
  have t3 : tr 0 s3.heap := T.keep _ _ _ t2 fun b _ o e => by rw [hp3]; exact Heap.get?_push_of_some _ e
  have I4 := startH I3 bo hN fk3
  have pg := hg s3 (upd H2 L (.lst [])) s3.heap.objs.size (cellsFrom (s3.heap.objs.size + 1) scope.names (cloFrom X.env.cells scope.names [])) fr
  have pt := ht s3 (upd H2 L (.lst [])) s3.heap.objs.size (cellsFrom (s3.heap.objs.size + 1) scope.names (cloFrom X.env.cells scope.names [])) fr
  have pe := he s3 (upd H2 L (.lst [])) s3.heap.objs.size (cellsFrom (s3.heap.objs.size + 1) scope.names (cloFrom X.env.cells scope.names [])) fr
  show codeAny _ _ (.compStart (.ListComp elt [⟨tg, iter, ifs, 0⟩] scope pos) 0 (.ref it) (.ref L) (ceOf X scope s3.heap.objs.size)) (compPost (model X.prog X.w) X.A X.xe use Qf (.ref L) s3.heap.objs.size) { s3 with heap := pushCells (s3.heap.push { cls := .type "dict", data := .dict #[] }) scope.names }
  have none3 : ∀ b ∈ fr, (upd H2 L (.lst [])) b = none := fun b hb => (fk3 b hb).1.1
  have pn3 : ∀ b ∈ fr, ∀ p ∈ X.pn, p.1 ≠ b := fun b hb p hp => (fk3 b hb).1.2.2.2.2.2 p (List.mem_append_left _ hp)
  generalize ece : ceOf X scope s3.heap.objs.size = ce at I4 ⊢
  have ece2 : compEnvC scope (cellsFrom (s3.heap.objs.size + 1) scope.names (cloFrom X.env.cells scope.names [])) s3.heap.objs.size X.env = ce := ece
  rw [ece2] at pg pt pe
  have loc : ce.locals = s3.heap.objs.size := by rw [← ece]; rfl
  generalize eH : upd H2 L (.lst []) = H3 at I3 I4 pg pt pe w0 none3 fk3
  generalize e4 : ({ s3 with heap := pushCells (s3.heap.push { cls := .type "dict", data := .dict #[] }) scope.names } : Shared) = s4 at I4 ⊢
  have t4 : tr 0 s4.heap := T.keep _ _ _ t3 fun b _ o e => by rw [← e4]; exact pushCells_keeps _ _ _ _ (Heap.get?_push_of_some _ e)
  have hotB : L2H.HotC (blkH X s3 H3 scope ce fr) := hot
  have fk : ∀ {σ' : L2.St} {H' : Hp} {s' : Shared}, Inv (blkH X s3 H3 scope ce fr) [] σ' H' s' → (∀ b ∈ fr, H' b = none) → ∀ b ∈ fr, FpOk (blkH X s3 H3 scope ce fr) [] H' b := fun {σ' H' s'} J hn b hb =>
    ⟨hn b hb, (J.ok.exf b hb).1, J.ok.exfs b hb, .inl hb, fun x c e => (J.ok.exf b hb).2 x c e, fun p hp => pn3 b hb p (by simpa using hp)⟩
  have loop : codeAny (model X.prog X.w) X.A (.compLoop (.ListComp elt [⟨tg, iter, ifs, 0⟩] scope pos) 0 (.ref it) (.ref L) ce) (compPost (model X.prog X.w) X.A X.xe use Qf (.ref L) s3.heap.objs.size) s4 := by
    refine compLoop_any (fun n s' => ∃ i H', Inv (blkH X s3 H3 scope ce fr) [] (wipe σ (own.map (·.2))) H' s' ∧ tr i s'.heap ∧ (∀ b ∈ fr, H' b = none) ∧ W i n H') ?_ m0 ⟨0, H3, I4, t4, none3, w0⟩
    rintro n s5 ⟨i, H5, I5, t5, n5, w5⟩
    rcases turn i n H5 w5 with ⟨stop, qq⟩ | ⟨go, Nx, hNx, step⟩
    · refine thnF (T.done (blkH X s3 H3 scope ce fr) rfl rfl rfl hotB i [] s5 _ H5 (fun _ _ => False) I5 (fk I5 n5) t5 stop) fun r s6 ⟨hr, I6⟩ => ?_
      subst hr
      have I7 : Inv X pins σ H5 s6 := I3.call' (ch := fr) I6.os I6.base I6.hok I6.bare fun b hb =>
        have z := (fk3 b hb).1.2
        ⟨z.2.2.1, z.1, z.2.2.2.1, z.2.2.2.2⟩
      have nC : H5 s3.heap.objs.size = none := loc ▸ I6.free
      obtain ⟨m, hn, _⟩ := I6.loc
      have hn2 : s6.heap.Ns s3.heap.objs.size m := loc ▸ hn
      exact hEnd L s3.heap.objs.size s6 m H5 I7 qq hn2 (I3.fpOk (Nat.le_refl _) nC)
    · refine thnF (T.item (blkH X s3 H3 scope ce fr) rfl rfl rfl hotB i [] s5 _ H5 (fun _ _ => False) I5 (fk I5 n5) t5 go) fun r s6 ⟨u, hr, h6⟩ => ?_
      subst hr
      refine thnF h6 fun _ s7 ⟨x, H7, I7, r7, y7, t7, n7⟩ => ?_
      have P7 := I7.pinned (fk I7 n7) (T.obj _ _ t7)
      refine thnF (pg.run _ s7 _ H7 x u _ P7 r7 (step x H7 y7)) fun _ s8 ⟨σ8, H8, I8, hw8, q8⟩ => ?_
      refine thnF (pt.run _ s8 σ8 H8 _ I8 q8) fun b s9 ⟨H9, I9, q9⟩ => ?_
      have close : ∀ {s' : Shared} {H' : Hp}, Inv (blkH X s3 H3 scope ce fr) ([] ++ pinsAt fr s7.heap) σ8 H' s' → Nx H' →
          ∃ m, m < n ∧ ∃ i H', Inv (blkH X s3 H3 scope ce fr) [] (wipe σ (own.map (·.2))) H' s' ∧ tr i s'.heap ∧ (∀ b ∈ fr, H' b = none) ∧ W i m H' := fun {s' H'} J nx => by
        obtain ⟨m', hm, w'⟩ := hNx H' nx
        have kept : ∀ b ∈ fr, ∀ o, s7.heap.get? b = some o → s'.heap.get? b = some o ∧ H' b = none := fun b hb o e =>
          have z := J.pin (b, o) (List.mem_append_right _ (List.mem_append_right _ (mem_pinsAt hb e)))
          ⟨z.1, z.2.1⟩
        refine ⟨m', hm, i + 1, H', (J.unpinned (pins := [])).weak (by rw [← hw8, wipe_length]) (fun j v e => ?_), T.keep _ _ _ t7 fun b hb o e => (kept b hb o e).1, fun b hb => (T.obj _ _ t7 b hb).elim fun o e => (kept b hb o e.1).2, w'⟩
        rw [← hw8] at e
        exact (wipe_some e).1
      cases b with
      | false =>
        rw [if_neg Bool.false_ne_true] at q9
        exact iteF (close I9 q9)
      | true =>
        rw [if_pos rfl] at q9
        refine iteT (thnF (pe.run _ s9 σ8 H9 _ I9 q9) fun z s10 ⟨yv, H10, I10, r10, acc, hL10, hz10, nx⟩ => ?_)
        exact app_ok (X := blkH X s3 H3 scope ce fr) I10 hL10 hz10 r10 fun s11 I11 => close I11 nx
  exact codeAny_compStart_list loop (T.self X.A 0 _ _ _ t4 loop)
theorem pe_lcHot {pos : Pos} (hot : L2H.HotC X) (hN : X.N.Nodup) (hi : L2H.PIH X tg iter wi) (bo : BlkOk X.N X.env.scope scope own)
    (hg : ∀ (s : Shared) (H : Hp) (C : Addr) (cl : List (Str × Addr)) (fr : List Addr), PG (blkH X s H scope (compEnvC scope cl C X.env) fr) tg g)
    (ht : ∀ (s : Shared) (H : Hp) (C : Addr) (cl : List (Str × Addr)) (fr : List Addr), PTs (blkH X s H scope (compEnvC scope cl C X.env) fr) ifs tt)
    (he : ∀ (s : Shared) (H : Hp) (C : Addr) (cl : List (Str × Addr)) (fr : List Addr), PE (blkH X s H scope (compEnvC scope cl C X.env) fr) elt te)
    (hfold : ∀ x, foldedSetIterable iter X.env x = pure x := by intro _; rfl) : PE X (.ListComp elt [⟨tg, iter, ifs, 0⟩] scope pos) (tLc wi g tt te (own.map (·.2))) := ⟨fun pins s σ H Q I h => by
  rw [eval_ListComp]
  exact lc_hot hot hN I hi bo hg ht he hfold h fun L C s' m H' J q hn ⟨f0, f1, f2, f3, f4, f5⟩ => ⟨m, hn, fun h'' sb => ⟨.ref L, H', J.turned (t' := s'.toks) (fun b o hb e => (sb.2 b hb).trans e) f0 f1 f3 f4 f5, rfl, q⟩⟩⟩
theorem ps_setLcHot {i : Nat} {y : Str} {py pos spos : Pos} (hot : L2H.HotC X) (hN : X.N.Nodup) (hy : X.N[i]? = some y) (hyl : X.env.scope.names.lookup y = some .local)
    (hsw : swapsWith (.ListComp elt [⟨tg, iter, ifs, 0⟩] scope pos) (some (.Name y py)) spos.line X.env = pure true) (hi : L2H.PIH X tg iter wi) (bo : BlkOk X.N X.env.scope scope own)
    (hg : ∀ (s : Shared) (H : Hp) (C : Addr) (cl : List (Str × Addr)) (fr : List Addr), PG (blkH X s H scope (compEnvC scope cl C X.env) fr) tg g)
    (ht : ∀ (s : Shared) (H : Hp) (C : Addr) (cl : List (Str × Addr)) (fr : List Addr), PTs (blkH X s H scope (compEnvC scope cl C X.env) fr) ifs tt)
    (he : ∀ (s : Shared) (H : Hp) (C : Addr) (cl : List (Str × Addr)) (fr : List Addr), PE (blkH X s H scope (compEnvC scope cl C X.env) fr) elt te)
    (hfold : ∀ x, foldedSetIterable iter X.env x = pure x := by intro _; rfl) : PS X (.Assign [.Name y py] (.ListComp elt [⟨tg, iter, ifs, 0⟩] scope pos) spos) (tAsg (tLc wi g tt te (own.map (·.2))) (gName i)) := ⟨fun pins s σ H D I h => by
  rw [exec_Assign_Name_used _ _ _ _ hsw]
  have h : tLc wi g tt te (own.map (·.2)) σ H (fun x H1 => gName i x σ H1 D.nx) := h
  refine wpAny_bind (wpAny_standAt (wpAny_bind (wpAny_bind (thn (lc_hot (Qf := fun _ s' => SP X pins D .next s') (use := some (assign (.Name y py) X.env)) hot hN I hi bo hg ht he hfold h fun L C s' m H' J q hn f => ?_) fun _ s' hq => wpAny_pure (wpAny_pure hq)))))
  obtain ⟨f0, f1, f2, f3, f4, f5⟩ := f
  refine wpAny_assign_Name (store_ok2 (v := V.ref L) J hN hy (.inl hyl) rfl (fun s2 I2 st => ?_) (.inr hyl))
  obtain ⟨a, sb, ha⟩ := st
  have neq : C ≠ a := ha.elim (fun z => z ▸ f1) (fun z e => f4 y a z e.symm)
  exact ⟨m, hn.sameBut sb neq, fun h3 sb3 => ⟨_, H', I2.turned (t' := s2.toks) (fun b o hb e => (sb3.2 b hb).trans e) f0 f1 f3 f4 f5, q⟩⟩⟩
end
/-- X, in the block of a comprehension, an exception being handled -/
def IsBlkH (X : Cx) (scope : Scope) (Y : Cx) : Prop := ∃ (s : Shared) (H : Hp) (C : Addr) (cl : List (Str × Addr)) (fp : List Addr), Y = blkH X s H scope (compEnvC scope cl C X.env) fp
abbrev IDH (X : Cx) (tg iter : Expr) (ρ : En) (its : List PyData) (ok : En → Prop) (own : Option Nat) (ρ' : En) : Prop := L2H.PIH X tg iter (tI X.K ρ its ok own ρ')
section
variable {X : Cx} {W : WX} {e a b c tg iter elt : Expr} {es : List Expr} {p pos pos' : Pos} {ρ ρ' ρ1 ρ2 ρ3 : En} {x y z : PyData} {xs ys its : List PyData} {rest : List Stmt} {D : DE} {k : Bool} {i j : Nat} {w : Str} {ok : En → Prop} {scope : Scope} {own : List (Str × Nat)} {ifs : List Expr} {src : Option Nat} {α β : Type}
theorem PIH_imp {t t' : TI} (h : L2H.PIH X tg iter t) (i : ∀ σ H R, t' σ H R → t σ H R) : L2H.PIH X tg iter t' := ⟨fun pins s σ H R I q => h.run pins s σ H R I (i _ _ _ q)⟩
theorem idH_range0 {n : Nat} (hm : X.mg "range" = none) (h : PD X a ρ (.int (n : Int)) ρ') (h2 : n < 2 ^ 62) (hg : Gl X "range" := by rfl) (hs : starEach [a] X.env = [(false, eval a X.env)] := by rfl) : IDH X tg (.Call (.Name "range" p) [a] [] pos) ρ ((List.range n).map fun i : Nat => PyData.int (i : Int)) (fun _ => True) none ρ' :=
  PIH_imp (L2H.pi_range1H hg hm (ad_cons h ad_nil hs) hs) fun σ H R ⟨C, F, se, q⟩ => ⟨C, F, se, fun vs F1 H1 x1 e1 r1 => by
    cases r1 with
    | cons a1 a2 =>
      cases a2
      rw [rp_int a1]
      refine ⟨(n : Int), rfl, by omega, by omega, q _ F1 H1 x1 e1 ?_⟩
      rw [Int.toNat_natCast]
      have e2 : rgD 0 n = (List.range n).map fun i : Nat => PyData.int (i : Int) := by
        unfold rgD
        simp only [Int.zero_add]
      rw [← e2]
      exact wk_range⟩
theorem tsd_nil_ofH {Y : Cx} {scope : Scope} (h : IsBlkH X scope Y) : PTs Y [] (tT X.K ρ true ρ) := by
  obtain ⟨s, H, C, cl, fp, rfl⟩ := h
  exact tsd_nil
structure TurnOkH (X : Cx) (scope : Scope) (vs : List Nat) (tg elt : Expr) (ifs : List Expr) (d : PyData) (ρ ρ' : En) (T : Turn) : Prop where
  tg : ∀ Y, IsBlkH X scope Y → GV Y vs tg d (wipeE ρ vs) T.ρt
  ts : ∀ Y, IsBlkH X scope Y → PTs Y ifs (tT X.K T.ρt T.k T.ρm)
  el : ∀ Y, IsBlkH X scope Y → T.k = true → PE Y elt (tP X.K T.ρm T.y T.ρe)
  nx : Le (wipeE ρ' vs) (if T.k = true then T.ρe else T.ρm)
/-- what a list comprehension needs, whatever is done with it -/
structure LcOkH (X : Cx) (elt tg iter : Expr) (ifs : List Expr) (scope : Scope) (ρ : En) (ct : Ct) (ρ' : En) : Prop where
  ex : ∃ (own : List (Str × Nat)) (wi : TI) (g : TG) (tt : TT) (te : TE), L2H.PIH X tg iter wi ∧ BlkOk X.N X.env.scope scope own ∧ (∀ (s : Shared) (H : Hp) (C : Addr) (cl : List (Str × Addr)) (fp : List Addr), PG (blkH X s H scope (compEnvC scope cl C X.env) fp) tg g) ∧
    (∀ (s : Shared) (H : Hp) (C : Addr) (cl : List (Str × Addr)) (fp : List Addr), PTs (blkH X s H scope (compEnvC scope cl C X.env) fp) ifs tt) ∧ (∀ (s : Shared) (H : Hp) (C : Addr) (cl : List (Str × Addr)) (fp : List Addr), PE (blkH X s H scope (compEnvC scope cl C X.env) fp) elt te) ∧
    ∀ σ H Q, tN X.K ρ ct ρ' σ H Q → tLc wi g tt te (own.map (·.2)) σ H Q
/-- a list comprehension -/
theorem lc_okH (I : Nat → En) (T : Nat → Turn) (hb : BlkOk X.N X.env.scope scope own) (hi : IDH X tg iter ρ its ok src ρ1) (h0 : Le (wipeE (I 0) (own.map (·.2))) ρ1) (hsrc : ∀ j, src = some j → j ∉ own.map (·.2)) (hok : ∀ i, i ≤ its.length → ok (wipeE (I i) (own.map (·.2)))) (hlen : its.length < 100000)
    (hT : ∀ i d, its[i]? = some d → TurnOkH X scope (own.map (·.2)) tg elt ifs d (I i) (I (i + 1)) (T i)) :
    LcOkH X elt tg iter ifs scope ρ (.l (outs T its.length)) (restE ρ1 (I its.length) (own.map (·.2))) := by
  have hg := fun (s : Shared) (H : Hp) (C : Addr) (cl : List (Str × Addr)) (fp : List Addr) => PG_ex (t := fun (p : { p : Nat × PyData // its[p.1]? = some p.2 }) => tGv X.K (own.map (·.2)) p.1.2 (wipeE (I p.1.1) (own.map (·.2))) (T p.1.1).ρt) fun p => (hT p.1.1 p.1.2 p.2).tg _ ⟨s, H, C, cl, fp, rfl⟩
  have ht := fun (s : Shared) (H : Hp) (C : Addr) (cl : List (Str × Addr)) (fp : List Addr) => PTs_ex fun p : { p : Nat × PyData // its[p.1]? = some p.2 } => (hT p.1.1 p.1.2 p.2).ts _ ⟨s, H, C, cl, fp, rfl⟩
  have he := fun (s : Shared) (H : Hp) (C : Addr) (cl : List (Str × Addr)) (fp : List Addr) => PE_ex fun p : { p : Nat × PyData // its[p.1]? = some p.2 ∧ (T p.1).k = true } => (hT p.1.1 p.1.2 p.2.1).el _ ⟨s, H, C, cl, fp, rfl⟩ p.2.2
  refine ⟨own, _, _, _, _, hi, hb, hg, ht, he, fun σ H Q ⟨C, F, se, q⟩ => ⟨C, F, se, fun J F1 H1 x1 e1 wk => ?_⟩⟩
  exact lc_read (g := fun v σ H Q => ∃ p : { p : Nat × PyData // its[p.1]? = some p.2 }, tGv X.K (own.map (·.2)) p.1.2 (wipeE (I p.1.1) (own.map (·.2))) (T p.1.1).ρt v σ H Q)
    (tt := fun σ H Q => ∃ p : { p : Nat × PyData // its[p.1]? = some p.2 }, tT X.K (T p.1.1).ρt (T p.1.1).k (T p.1.1).ρm σ H Q)
    (te := fun σ H Q => ∃ p : { p : Nat × PyData // its[p.1]? = some p.2 ∧ (T p.1).k = true }, tP X.K (T p.1.1).ρm (T p.1.1).y (T p.1.1).ρe σ H Q) e1 wk h0 hsrc hok hlen (fun i d hd v σ H Q t => ⟨⟨(i, d), hd⟩, t⟩) (fun i d hd σ H Q t => ⟨⟨(i, d), hd⟩, t⟩) (fun i d hd k σ H Q t => ⟨⟨(i, d), hd, k⟩, t⟩) (fun i d hd => (hT i d hd).nx) fun p F2 H2 x2 e2 f2 c2 n2 o2 => q p F2 H2 (x1.trans x2) e2 f2 c2 n2 o2
theorem lcMH (xs : List α) (td : α → PyData) (fd : β → PyData) (keep : α → Bool) (val : α → β) {scope : Scope} {own : List (Str × Nat)} {ifs : List Expr} {src : Option Nat} {ok : En → Prop} (hb : BlkOk X.N X.env.scope scope own) (hi : IDH X tg iter ρ (xs.map td) ok src ρ1) (hlen : xs.length < 100000) (hsrc : ∀ j, src = some j → j ∉ own.map (·.2)) (hok : ok (wipeE ρ1 (own.map (·.2))))
    (hT : ∀ a, a ∈ xs → ∃ ρt ρe, (∀ Y, IsBlkH X scope Y → GV Y (own.map (·.2)) tg (td a) (wipeE ρ1 (own.map (·.2))) ρt) ∧ (∀ Y, IsBlkH X scope Y → PTs Y ifs (tT X.K ρt (keep a) ρt)) ∧ (∀ Y, IsBlkH X scope Y → keep a = true → PE Y elt (tP X.K ρt (fd (val a)) ρe)) ∧ Le (wipeE ρ1 (own.map (·.2))) ρt ∧ Le (wipeE ρ1 (own.map (·.2))) ρe): LcOkH X elt tg iter ifs scope ρ (.l (((xs.filter keep).map val).map fd)) (restE ρ1 ρ1 (own.map (·.2))) := by
  have cho : ∀ p : { a // a ∈ xs }, ∃ q : En × En, (∀ Y, IsBlkH X scope Y → GV Y (own.map (·.2)) tg (td p.1) (wipeE ρ1 (own.map (·.2))) q.1) ∧ (∀ Y, IsBlkH X scope Y → PTs Y ifs (tT X.K q.1 (keep p.1) q.1)) ∧ (∀ Y, IsBlkH X scope Y → keep p.1 = true → PE Y elt (tP X.K q.1 (fd (val p.1)) q.2)) ∧ Le (wipeE ρ1 (own.map (·.2))) q.1 ∧ Le (wipeE ρ1 (own.map (·.2))) q.2 := fun p => by
    obtain ⟨ρt, ρe, h⟩ := hT p.1 p.2
    exact ⟨(ρt, ρe), h⟩
  let T : Nat → Turn := fun i => if h : i < xs.length then
      let q := Classical.choose (cho ⟨xs[i], List.getElem_mem h⟩)
      ⟨q.1, q.1, keep xs[i], fd (val xs[i]), q.2⟩ else ⟨[], [], false, .none, []⟩
  have hT' : ∀ i d, (xs.map td)[i]? = some d → TurnOkH X scope (own.map (·.2)) tg elt ifs d ρ1 ρ1 (T i) := fun i d hd => by
    have hlt : i < xs.length := by
      by_cases z : i < xs.length
      · exact z
      · rw [List.getElem?_eq_none (by rw [List.length_map]; omega)] at hd; cases hd
    rw [List.getElem?_map, List.getElem?_eq_getElem hlt] at hd
    cases hd
    have sp := Classical.choose_spec (cho ⟨xs[i], List.getElem_mem hlt⟩)
    have eT : T i = ⟨(Classical.choose (cho ⟨xs[i], List.getElem_mem hlt⟩)).1, (Classical.choose (cho ⟨xs[i], List.getElem_mem hlt⟩)).1, keep xs[i], fd (val xs[i]), (Classical.choose (cho ⟨xs[i], List.getElem_mem hlt⟩)).2⟩ := dif_pos hlt
    rw [eT]
    obtain ⟨s1, s2, s3, s4, s5⟩ := sp
    refine ⟨s1, s2, s3, ?_⟩
    dsimp only
    split
    · exact s5
    · exact s4
  have h := lc_okH (its := xs.map td) (fun _ => ρ1) T hb hi (wipeE_le _ _) hsrc (fun _ _ => hok) (by rw [List.length_map]; exact hlen) hT'
  have eo : ∀ n, n ≤ xs.length → outs T n = (((xs.take n).filter keep).map val).map fd := by
    intro n
    induction n with
    | zero => intro _; simp [outs]
    | succ n ih =>
      intro hn
      have hlt : n < xs.length := by omega
      have eT : T n = ⟨(Classical.choose (cho ⟨xs[n], List.getElem_mem hlt⟩)).1, (Classical.choose (cho ⟨xs[n], List.getElem_mem hlt⟩)).1, keep xs[n], fd (val xs[n]), (Classical.choose (cho ⟨xs[n], List.getElem_mem hlt⟩)).2⟩ := dif_pos hlt
      unfold outs
      rw [eT, ih (by omega), take_succ_of (List.getElem?_eq_getElem hlt), List.filter_append]
      dsimp only
      by_cases q : keep xs[n] = true
      · rw [if_pos q, List.filter_cons_of_pos q, List.filter_nil, List.map_append, List.map_append]; rfl
      · rw [if_neg q, List.filter_cons_of_neg q, List.filter_nil, List.append_nil]
  rw [List.length_map, eo _ (Nat.le_refl _), List.take_length] at h
  exact h
theorem lcNH (xs : List α) (td : α → PyData) (fd : β → PyData) (val : α → β) {scope : Scope} {own : List (Str × Nat)} {src : Option Nat} {ok : En → Prop} (hb : BlkOk X.N X.env.scope scope own) (hi : IDH X tg iter ρ (xs.map td) ok src ρ1) (hlen : xs.length < 100000) (hsrc : ∀ j, src = some j → j ∉ own.map (·.2)) (hok : ok (wipeE ρ1 (own.map (·.2))))
    (hT : ∀ a, a ∈ xs → ∃ ρt ρe, (∀ Y, IsBlkH X scope Y → GV Y (own.map (·.2)) tg (td a) (wipeE ρ1 (own.map (·.2))) ρt) ∧ (∀ Y, IsBlkH X scope Y → PE Y elt (tP X.K ρt (fd (val a)) ρe)) ∧ Le (wipeE ρ1 (own.map (·.2))) ρt ∧ Le (wipeE ρ1 (own.map (·.2))) ρe): LcOkH X elt tg iter [] scope ρ (.l ((xs.map val).map fd)) (restE ρ1 ρ1 (own.map (·.2))) := by
  have h := lcMH (ifs := []) xs td fd (fun _ => true) val hb hi hlen hsrc hok (fun a ha => by
    obtain ⟨ρt, ρe, h1, h2, h3, h4⟩ := hT a ha
    exact ⟨ρt, ρe, h1, fun Y hY => tsd_nil_ofH hY, fun Y hY _ => h2 Y hY, h3, h4⟩)
  rw [List.filter_eq_self.mpr (fun _ _ => rfl)] at h
  exact h

end
end G

/-! GDeep: in a list of data, int or True, a suite without a name, extend. -/
namespace G
open PySem PySem.Spec PyProof.Rows L2
/-! flat data -/
theorem lay_map {α : Type} {f : α → PyData} {n : Nat} (h : ∀ a, PyData.canLay0 (f a) = true ∧ PyData.depth (f a) ≤ n) : ∀ xs : List α, PyData.canLayAll0 (xs.map f) = true ∧ PyData.depthAll (xs.map f) ≤ n
  | [] => ⟨rfl, Nat.zero_le _⟩
  | x :: xs => by
    have ih := lay_map h xs
    have hx := h x
    refine ⟨?_, ?_⟩
    · show (PyData.canLay0 (f x) && PyData.canLayAll0 (xs.map f)) = true
      rw [hx.1, ih.1]; rfl
    · show max (PyData.depth (f x)) (PyData.depthAll (xs.map f)) ≤ n
      omega
theorem flat_map {α : Type} {f : α → PyData} {n : Nat} (h : ∀ a, PyData.canLay0 (f a) = true ∧ PyData.depth (f a) ≤ n) (hn : n ≤ 60) (xs : List α) : flat (.list (xs.map f)) = true := by
  have l := lay_map h xs
  show (PyData.canLayAll0 (xs.map f) && decide (PyData.depth (.list (xs.map f)) ≤ 64)) = true
  rw [l.1, Bool.true_and, decide_eq_true_eq]
  simp only [PyData.depth]
  omega
theorem lay_int (i : Int) : PyData.canLay0 (.int i) = true ∧ PyData.depth (.int i) ≤ 1 := ⟨rfl, by simp [PyData.depth]⟩
theorem lay_t2 (x : Int × Int) : PyData.canLay0 (dT2 PyData.int PyData.int x) = true ∧ PyData.depth (dT2 PyData.int PyData.int x) ≤ 3 := ⟨rfl, by simp [dT2, PyData.depth, PyData.depthAll]⟩
theorem flat_t2 (x : Int × Int) : flat (dT2 PyData.int PyData.int x) = true := by
  have l := lay_t2 x
  show (PyData.canLay0 (dT2 PyData.int PyData.int x) && decide (PyData.depth (dT2 PyData.int PyData.int x) ≤ 64)) = true
  rw [l.1, Bool.true_and, decide_eq_true_eq]
  omega
theorem eqv_t2 (x y : Int × Int) : PyData.eqv (dT2 PyData.int PyData.int x) (dT2 PyData.int PyData.int y) = decide (x = y) := by
  obtain ⟨a, b⟩ := x
  obtain ⟨c, d⟩ := y
  show PyData.eqv (.tuple [.int a, .int b]) (.tuple [.int c, .int d]) = _
  simp only [PyData.eqv, PyData.eqvAll, Bool.and_true, Prod.mk.injEq]
  rw [Bool.eq_iff_iff]
  simp
section
variable {X : Cx} {W : WX} {e a b c o : Expr} {es : List Expr} {p pos pos' np : Pos} {ρ ρ' ρ1 ρ2 ρ3 : En} {x y z : PyData} {xs ys zs : List PyData} {st : Stmt} {rest A B body suite : List Stmt} {D : DE} {cls : Value} {fs : List (Str × PyData)} {w n : Str} {k : Bool} {i j : Int}
theorem pd_weak (h : PD X a ρ x ρ1) (hl : Le ρ2 ρ1) : PD X a ρ x ρ2 := PE_imp h fun σ H Q ⟨C, F, se, q⟩ => ⟨C, F, se, fun v F1 H1 x1 e1 r1 => q v F1 H1 x1 (e1.le hl) r1⟩
theorem Room.units65 {k : Nat} {A : Around} (r : Room k A) : A.units + 65 < cLine := by have := r.un; omega
theorem pd_inD {ds : List PyData} (hu : X.A.units + 65 < cLine) (hx : flat x = true) (hy : flat (.list ds) = true) (ha : PD X a ρ x ρ1) (hb : PD X b ρ1 (.list ds) ρ2) (hm : behindInMarks .In b = false := by rfl) : PD X (.Compare a [.In] [b] pos) ρ (.bool (ds.any fun z => PyData.eqv z x)) ρ2 :=
  pd_cmp (op_inD hu) (fun F H v w Q ex r1 r2 q => ⟨x, ds, dp_mono ex x (Rp.dp x r1 (SeqAt.canLay_of_shaped hx)), dp_mono ex _ (Rp.dp _ r2 (SeqAt.canLay_of_shaped hy)), hx, hy, q _ F H (.refl ex) (.bl _)⟩) ha hb hm
theorem pd_inT2 {v : Int × Int} {ns : List (Int × Int)} (hu : X.A.units + 65 < cLine) (ha : PD X a ρ (dT2 PyData.int PyData.int v) ρ1) (hb : PD X b ρ1 (dL (dT2 PyData.int PyData.int) ns) ρ2) (hm : behindInMarks .In b = false := by rfl) : PD X (.Compare a [.In] [b] pos) ρ (.bool (decide (v ∈ ns))) ρ2 := by
  have h := pd_inD (pos := pos) hu (flat_t2 v) (flat_map lay_t2 (by omega) ns) ha hb hm
  refine pd_cast (congrArg PyData.bool ?_) h
  rw [List.any_map]
  show (ns.any fun z => PyData.eqv (dT2 PyData.int PyData.int z) (dT2 PyData.int PyData.int v)) = _
  rw [Bool.eq_iff_iff, List.any_eq_true, decide_eq_true_eq]
  constructor
  · rintro ⟨z, hz, q⟩
    rw [eqv_t2, decide_eq_true_eq] at q
    exact q ▸ hz
  · intro hz
    exact ⟨v, hz, by rw [eqv_t2]; exact decide_eq_true rfl⟩
/-! an int, or True -/
def dV : Option Int → PyData
  | none => .bool true
  | some i => .int i
def vI : Option Int → Int
  | none => 1
  | some i => i
theorem op_add_bi : OpR X (binaryOp .Add) (fun x y H Q => ∃ k i, x = .bl k ∧ y = .int i ∧ Q (.int ((if k = true then (1 : Int) else 0) + i)) H) := by
  intro pins s σ H x y v u Q I rx ry ⟨k, i, e1, e2, q⟩
  subst e1 e2
  cases rx
  obtain ⟨t, rfl⟩ := ry
  exact PySem.IntBool.add_bool_int ⟨.int ((if k = true then (1 : Int) else 0) + i), H, I.tok _, ⟨_, rfl⟩, q⟩
theorem op_sub_bi : OpR X (binaryOp .Sub) (fun x y H Q => ∃ k i, x = .bl k ∧ y = .int i ∧ Q (.int ((if k = true then (1 : Int) else 0) - i)) H) := by
  intro pins s σ H x y v u Q I rx ry ⟨k, i, e1, e2, q⟩
  subst e1 e2
  cases rx
  obtain ⟨t, rfl⟩ := ry
  exact PySem.IntBool.sub_bool_int ⟨.int ((if k = true then (1 : Int) else 0) - i), H, I.tok _, ⟨_, rfl⟩, q⟩
theorem pd_addV {v : Option Int} (ha : PD X a ρ (dV v) ρ1) (hb : PD X b ρ1 (.int j) ρ2) : PD X (.BinOp a .Add b pos) ρ (.int (vI v + j)) ρ2 := by
  cases v with
  | some i => exact pd_add ha hb
  | none => exact pd_op op_add_bi (fun F H v w Q ex r1 r2 q => ⟨true, j, rp_bool r1, rp_int r2, q _ F H (.refl ex) (.int _)⟩) ha hb
theorem pd_subV {v : Option Int} (ha : PD X a ρ (dV v) ρ1) (hb : PD X b ρ1 (.int j) ρ2) : PD X (.BinOp a .Sub b pos) ρ (.int (vI v - j)) ρ2 := by
  cases v with
  | some i => exact pd_sub ha hb
  | none => exact pd_op op_sub_bi (fun F H v w Q ex r1 r2 q => ⟨true, j, rp_bool r1, rp_int r2, q _ F H (.refl ex) (.int _)⟩) ha hb
theorem pd_isiV {v : Option Int} (hm : X.mg ("isinstance" : Str) = none) (hc : PE X c (tC (.ty "bool"))) (ha : PD X a ρ (dV v) ρ1) (hg : Gl X "isinstance" := by rfl) (he : starEach [a, c] X.env = (false, eval a X.env) :: starEach [c] X.env := by rfl) (he2 : starEach [c] X.env = (false, eval c X.env) :: starEach [] X.env := by rfl)
    (hpl : (backTo pos (starEach [c] X.env)).any (·.1) = false := by rfl) : PD X (.Call (.Name "isinstance" p) [a, c] [] pos) ρ (.bool v.isNone) ρ1 := by
  cases v with
  | none => exact pd_isi (x := .bool true) (T := "bool") (k := true) rfl (show kitB "bool" "bool" = some true by decide +kernel) hm hc ha hg he he2 hpl
  | some i => exact pd_isi (x := .int i) (T := "bool") (k := false) rfl (show kitB "int" "bool" = some false by decide +kernel) hm hc ha hg he he2 hpl
theorem dV_get {v : Option Int} (h : v.isNone = false) : dV v = .int (v.getD 0) := by
  cases v with
  | none => cases h
  | some i => rfl
/-- x is not True, of a bool -/
theorem pd_notTrue {kk : Nat} {p' : Pos} (ha : PD X a ρ (.bool k) ρ1) : PD X (.Compare a [.IsNot] [.Constant (.bool true) kk p'] pos) ρ (.bool (!k)) ρ1 :=
  pd_cmp (op_notBl) (fun F H v w Q ex r1 r2 q => ⟨k, true, rp_bool r1, rp_bool r2, q _ F H (.refl ex) (by cases k <;> exact .bl _)⟩) ha pd_bl (nomark _)
theorem td_notTrue {kk : Nat} {p' : Pos} (ha : PD X a ρ (.bool k) ρ1) : TD X (.Compare a [.IsNot] [.Constant (.bool true) kk p'] pos) ρ (!k) ρ1 :=
  td_cmp (op_notBl) (fun F H v w Q ex r1 r2 q => ⟨k, true, rp_bool r1, rp_bool r2, q _ F H (.refl ex) (by cases k <;> exact .bl _)⟩) ha pd_bl (nomark _)
/-- xs.extend(new list) -/
theorem sd_extend (i : Nat) {o : Str} {p1 p2 p3 : Pos} {pa pb : Option Addr} (h0 : ρ[i]? = some (.o pa (.l ys))) (he : PN X e ρ (.l zs) ρ1) (h1 : ρ1[i]? = some (.o pb (.l xs))) (hl : xs.length + zs.length < 100000) (h : D.nx (ρ1.set i (.o pb (.l (xs ++ zs)))))
    (hN : X.N[i]? = some o := by rfl) (hv : Vis X.env.scope o := by first | exact Or.inl rfl | exact Or.inr (Or.inl rfl) | exact Or.inr (Or.inr rfl)) (hd : (o == ("__debug__" : Str)) = false := by decide) (hcd : (o == ("__classdict__" : Str)) = false := by decide)
    (hbase : attributeBase (.Name o p1) "extend" X.env (eval (.Name o p1) X.env) = eval (.Name o p1) X.env := by rfl)
    (hfew : ((backTo p3 (starEach [e] X.env)).all (fun x => !x.1) && (backToKw p3 (keywordEach [] X.env)).all (fun x => x.1.isSome)
      && decide ([e].length + ([] : List Keyword).length + (if ([] : List Keyword).isEmpty then 0 else 1) < 30)) = true := by rfl)
    (hline : (p2.endLine == p3.line) = true := by rfl) (hs : starEach [e] X.env = (false, eval e X.env) :: starEach [] X.env := by rfl)
    (hsw : swapsWith (.Call (.Attribute (.Name o p1) "extend" p2) [e] [] p3) none pos.line X.env = pure false := by rfl) :
    SD X W (.Expr (.Call (.Attribute (.Name o p1) "extend" p2) [e] [] p3) pos) ρ D := by
  refine PS_imp (ps_expr (pe_bm PySem.F.plainAttrs_list PySem.F.slot_list_extend PySem.F.type_list_extend mt_extend (pe_var hN hv hd hcd) (pa_cons he pa_nil hs) hbase hfew hline hs (by rfl)) hsw) fun E σ H ⟨C, F, se, cv⟩ => ?_
  obtain ⟨l, a1, _, ⟨vs, a2, a3⟩, a4⟩ := se.getO h0
  refine ⟨.ref l, a1, .inl ⟨rfl, vs, SqL.of a2⟩, C, F, se, fun q F1 H1 x1 e1 fq c0 no r1 => ?_⟩
  obtain ⟨l', b1, _, ⟨us, b2, b3⟩, b4⟩ := e1.getO h1
  rw [a1] at b1
  cases b1
  obtain ⟨ws, hq, rw'⟩ := r1
  refine ⟨l, q, us, ws, rfl, rfl, b2, hq, by rw [b3.length, rw'.length]; exact Nat.le_of_lt (line_lt hl), cv.nx _ F1 _ _ h ?_⟩
  exact e1.wr h1 a1 ⟨us ++ ws, upd_same, b3.append rw'⟩
theorem sd_extendM {α : Type} {f : α → PyData} {ns ms : List α} (i : Nat) {o : Str} {p1 p2 p3 : Pos} {pa pb : Option Addr} (h0 : ρ[i]? = some (.o pa (.l ys))) (he : PN X e ρ (.l (ms.map f)) ρ1) (h1 : ρ1[i]? = some (.o pb (.l (ns.map f)))) (hl : ns.length + ms.length < 100000) (h : D.nx (ρ1.set i (.o pb (.l ((ns ++ ms).map f)))))
    (hN : X.N[i]? = some o := by rfl) (hv : Vis X.env.scope o := by first | exact Or.inl rfl | exact Or.inr (Or.inl rfl) | exact Or.inr (Or.inr rfl)) (hd : (o == ("__debug__" : Str)) = false := by decide) (hcd : (o == ("__classdict__" : Str)) = false := by decide)
    (hbase : attributeBase (.Name o p1) "extend" X.env (eval (.Name o p1) X.env) = eval (.Name o p1) X.env := by rfl)
    (hfew : ((backTo p3 (starEach [e] X.env)).all (fun x => !x.1) && (backToKw p3 (keywordEach [] X.env)).all (fun x => x.1.isSome)
      && decide ([e].length + ([] : List Keyword).length + (if ([] : List Keyword).isEmpty then 0 else 1) < 30)) = true := by rfl)
    (hline : (p2.endLine == p3.line) = true := by rfl) (hs : starEach [e] X.env = (false, eval e X.env) :: starEach [] X.env := by rfl)
    (hsw : swapsWith (.Call (.Attribute (.Name o p1) "extend" p2) [e] [] p3) none pos.line X.env = pure false := by rfl) :
    SD X W (.Expr (.Call (.Attribute (.Name o p1) "extend" p2) [e] [] p3) pos) ρ D :=
  sd_extend i h0 he h1 (by rw [List.length_map, List.length_map]; exact hl) (by rw [← List.map_append]; exact h) hN hv hd hcd hbase hfew hline hs hsw
/-! ### try: body, except X: suite -/
theorem sd_try_one {c : Value} {b₀ : Stmt} (M : Value → List (Str × PyData) → En → Prop) (hs : X.stack = X.env :: X.outer) (hf : X.env.frame = some X.env.locals) (hc : Names X w c) (tk : L2N.Takes X W)
    (hb : ∀ (W : WX) (pn : List (Addr × Obj)) (xe : Value → Shared → Prop), L2N.Takes (X.tr pn xe) W → PassesOwn (model X.prog X.w) X.A X.env xe → BD (X.tr pn xe) W body ρ { D with ex := M })
    (hh : ∀ cls fs ρ', M cls fs ρ' → ∃ b, PySem.W.exmOne X.K cls c = some b ∧ (b = true → ∀ (a : Addr) (oe : Obj) (d : Option Addr) (pn : List (Addr × Obj)), L2N.Zn cls d oe → (∃ vs, oe.data = .fields vs) → BD (X.suite a ((a, oe) :: pn)) W0 (b₀ :: suite) ρ' { D with ex := fun _ _ _ => False }) ∧ (b = false → D.ex cls fs ρ')) :
    SD X W (.Try body [.ExceptHandler (some (.Name w np)) none (b₀ :: suite) pos'] [] [] pos) ρ D := by
  have hsu : ∀ (a : Addr) (oe : Obj) (cls : Value) (d : Option Addr) (pn : List (Addr × Obj)), L2N.Zn cls d oe → (∃ vs, oe.data = .fields vs) → PSs (X.suite a ((a, oe) :: pn)) (b₀ :: suite)
      (fun E σ H => ∃ q : { q : List (Str × PyData) × En // M cls q.1 q.2 ∧ PySem.W.exmOne X.K cls c = some true }, tD X.K W0 q.1.2 { D with ex := fun _ _ _ => False } E σ H) := fun a oe cls d pn hz hv => PSs_ex fun q => by
    obtain ⟨b, h1, h2, _⟩ := hh cls q.1.1 q.1.2 q.2.1
    rw [q.2.2] at h1
    cases h1
    exact h2 rfl a oe d pn hz hv
  refine PS_imp (L2N.ps_try_many hs hf tk (tb := fun W => tD X.K W ρ { D with ex := M }) (fun W pn xe t p => hb W pn xe t p) (.cons hc hsu .nil)) fun E σ H ⟨C, F, se, cv⟩ => ⟨C, F, se, ?_⟩
  refine ⟨cv.nx, cv.rt, fun cls fs ρ' d F' H' σ' m s r => ?_, cv.bk, cv.ct, cv.rn, cv.rq⟩
  obtain ⟨b, h1, h2, h3⟩ := hh cls fs ρ' m
  refine ⟨b, h1, fun hb1 a na => ?_, fun hb0 => cv.ex cls fs ρ' d F' H' σ' (h3 hb0) s r⟩
  subst hb1
  exact ⟨⟨(fs, ρ'), m, h1⟩, C, F', s, ⟨cv.nx, cv.rt, fun _ _ _ _ _ _ _ z => z.elim, cv.bk, cv.ct, cv.rn, cv.rq⟩⟩
/-- the exception that a suite handles is at hand -/
theorem hot_suite {a : Addr} {oe : Obj} {pn : List (Addr × Obj)} {cl : Value} {d : Option Addr} (hz : L2N.Zn cl d oe) (hf : ∃ vs, oe.data = .fields vs) : L2H.HotC (X.suite a ((a, oe) :: pn)) := by
  obtain ⟨vs, e⟩ := hf
  exact ⟨(a, oe), ⟨rfl, vs, e, hz.2.2 vs e⟩, List.mem_cons_self⟩
end
end G

/-! GPop: xs.pop(i). -/
namespace G
open PySem PySem.Spec PyProof.Rows L2
theorem rpa_erase {K : PySem.W.Frag} {F : Hp} : ∀ {us : List V} {xs : List PyData}, RpA K F us xs → ∀ k : Nat, RpA K F (us.eraseIdx k) (xs.eraseIdx k)
  | [], _, h, k => by cases h; exact .nil
  | u :: us, _, h, k => by
    cases h with
    | cons a b =>
      cases k with
      | zero => exact b
      | succ k => exact .cons a (rpa_erase b k)
theorem dV_nd (v : Option Int) : isDct (dV v) = false := by cases v <;> rfl
theorem dV_inj {a b : Option Int} (h : dV a = dV b) : a = b := by
  cases a with
  | none => cases b with
    | none => rfl
    | some j => exact PyData.noConfusion h
  | some i => cases b with
    | none => exact PyData.noConfusion h
    | some j => exact congrArg some (PyData.int.inj h)
theorem mapf_inj {α : Type} {f : α → PyData} (hf : ∀ a b, f a = f b → a = b) : ∀ {xs ys : List α}, xs.map f = ys.map f → xs = ys
  | [], [], _ => rfl
  | [], y :: ys, h => nomatch h
  | x :: xs, [], h => nomatch h
  | x :: xs, y :: ys, h => by
    rw [List.map_cons, List.map_cons] at h
    obtain ⟨a, b⟩ := List.cons.inj h
    rw [hf x y a, mapf_inj hf b]
theorem dL_inj {α : Type} {f : α → PyData} (hf : ∀ a b, f a = f b → a = b) {xs ys : List α} (h : dL f xs = dL f ys) : xs = ys := mapf_inj hf (PyData.list.inj h)
theorem t2_inj {α β : Type} {f : α → PyData} {g : β → PyData} (hf : ∀ a b, f a = f b → a = b) (hg : ∀ a b, g a = g b → a = b) (x y : α × β) (h : dT2 f g x = dT2 f g y) : x = y := by
  obtain ⟨a, b⟩ := x
  obtain ⟨c, d⟩ := y
  have h : PyData.tuple [f a, g b] = PyData.tuple [f c, g d] := h
  obtain ⟨h1, h2⟩ := List.cons.inj (PyData.tuple.inj h)
  rw [hf a c h1, hg b d (List.cons.inj h2).1]
theorem int_inj (a b : Int) (h : PyData.int a = PyData.int b) : a = b := PyData.int.inj h
theorem map_erase {α β : Type} (f : α → β) : ∀ (xs : List α) (k : Nat), (xs.map f).eraseIdx k = (xs.eraseIdx k).map f
  | [], k => rfl
  | x :: xs, 0 => rfl
  | x :: xs, k + 1 => by
    show f x :: (xs.map f).eraseIdx k = f x :: (xs.eraseIdx k).map f
    rw [map_erase f xs k]
section
variable {X : Cx} {W : WX} {e a b c : Expr} {es : List Expr} {pos : Pos} {ρ ρ' ρ1 ρ2 ρ3 : En} {α : Type} {f : α → PyData} {ns : List α} {ys : List PyData} {i : Int}
theorem pd_popAtM [Inhabited α] (j : Nat) {o : Str} {p1 p2 p3 : Pos} {pa pb : Option Addr} (h0 : ρ[j]? = some (.o pa (.l ys))) (ha : PD X a ρ (.int i) ρ1) (h1 : ρ1[j]? = some (.o pb (.l (ns.map f)))) (hi : 0 ≤ i ∧ i < ns.length) (hl : ns.length < 100000)
    (hN : X.N[j]? = some o := by rfl) (hv : Vis X.env.scope o := by first | exact Or.inl rfl | exact Or.inr (Or.inl rfl) | exact Or.inr (Or.inr rfl)) (hd : (o == ("__debug__" : Str)) = false := by decide) (hcd : (o == ("__classdict__" : Str)) = false := by decide)
    (hbase : attributeBase (.Name o p1) "pop" X.env (eval (.Name o p1) X.env) = eval (.Name o p1) X.env := by rfl)
    (hfew : ((backTo p3 (starEach [a] X.env)).all (fun x => !x.1) && (backToKw p3 (keywordEach [] X.env)).all (fun x => x.1.isSome)
      && decide ([a].length + ([] : List Keyword).length + (if ([] : List Keyword).isEmpty then 0 else 1) < 30)) = true := by rfl)
    (hline : (p2.endLine == p3.line) = true := by rfl) (hs : starEach [a] X.env = (false, eval a X.env) :: starEach [] X.env := by rfl) :
    PD X (.Call (.Attribute (.Name o p1) "pop" p2) [a] [] p3) ρ (f (gI ns i)) (ρ1.set j (.o pb (.l ((ns.eraseIdx i.toNat).map f)))) := by
  refine PE_imp (pe_bm PySem.F.plainAttrs_list PySem.F.slot_list_pop PySem.F.type_list_pop mt_popAt (pe_var hN hv hd hcd) (pa_cons ha pa_nil hs) hbase hfew hline hs (by rfl)) fun σ H Q ⟨C, F, se, q⟩ => ?_
  obtain ⟨l, a1, _, ⟨vs, a2, a3⟩, a4⟩ := se.getO h0
  refine ⟨.ref l, a1, .inl ⟨rfl, vs, SqL.of a2⟩, C, F, se, fun v F1 H1 x1 e1 r1 => ?_⟩
  obtain ⟨l', b1, _, ⟨us, b2, b3⟩, b4⟩ := e1.getO h1
  rw [a1] at b1
  cases b1
  rw [rp_int r1]
  have hk : i.toNat < us.length := by rw [b3.length, List.length_map]; omega
  obtain ⟨d, hd2, rd⟩ := b3.getV (List.getElem?_eq_getElem hk)
  have ed : d = f (gI ns i) := by
    rw [List.getElem?_map] at hd2
    have hlt : i.toNat < ns.length := by omega
    rw [List.getElem?_eq_getElem hlt] at hd2
    cases hd2
    unfold gI
    rw [if_neg (by omega), getElem!_pos ns _ hlt]
  subst ed
  have hx : seqIndex? i us.length = some i.toNat := by
    unfold seqIndex?
    rw [if_neg (show ¬ i < 0 by omega), if_pos (by simp; omega)]
  refine ⟨l, us, i, i.toNat, _, rfl, rfl, b2, by omega, by omega, hx, List.getElem?_eq_getElem hk, q _ F1 _ x1 (e1.wr h1 a1 ⟨us.eraseIdx i.toNat, upd_same, ?_⟩) rd⟩
  rw [← map_erase]
  exact rpa_erase b3 _
theorem sd_setLcDH {xs : List PyData} {tg iter elt : Expr} {ifs : List Expr} {scope : Scope} {w : Str} {D : DE} {pos' spos : Pos} (i : Nat) (hot : L2H.HotC X) (h : LcOkH X elt tg iter ifs scope ρ (.l xs) ρ') (h2 : D.nx (ρ'.set i (.d (.list xs)))) (hN : X.N.Nodup) (hy : X.N[i]? = some w := by rfl) (hyl : X.env.scope.names.lookup w = some .local := by rfl)
    (hsw : swapsWith (.ListComp elt [⟨tg, iter, ifs, 0⟩] scope pos) (some (.Name w pos')) spos.line X.env = pure true := by rfl) (hs : ∀ x, foldedSetIterable iter X.env x = pure x := by intro _; rfl) : SD X W (.Assign [.Name w pos'] (.ListComp elt [⟨tg, iter, ifs, 0⟩] scope pos) spos) ρ D := by
  obtain ⟨own, wi, g, tt, te, hi, hb, hg, ht, he, q⟩ := h.ex
  refine PS_imp (ps_setLcHot hot hN hy hyl hsw hi hb hg ht he hs) fun E σ H ⟨C, F, se, cv⟩ => q σ H _ ⟨C, F, se, fun p F1 H1 x1 e1 fp h0 no r1 => ?_⟩
  obtain ⟨vs, hp, r⟩ := r1
  exact cv.nx _ (upd F1 p (.lst vs)) H1 _ h2 ((e1.frz fp hp h0 no).setD (.lst (SqL.of upd_same) (r.mono (.new fp))))
end
end G

/-! GRev: list(reversed(xs)). -/
namespace RT
open PySem PySem.Spec PyProof.Rows
section
variable {prog : Program} {w : World} {A : Around} {E : Value → Shared → Prop} {s : Shared}
theorem extend_revL {R : Result → Shared → Prop} {it l S : Addr} {c0 : Nat} {items : Array Value} {res : Value} (hh : A.in1.handled = none) (hit : s.heap.IsRevIter it l ((items.size : Int) - 1)) (hl : s.heap.IsList l items) (hne : l ≠ it) (hn : items.size ≤ sizeLine)
    (hSi : S ≠ it) (hSl : S ≠ l) (hS : s.heap.get? S = some { cls := .type "list", dict := none, data := .seq #[] c0, slots := #[] })
    (hR : ∀ (h' : Heap) (tk : Nat) (acc : Array Value) (c' : Nat), (∀ b o, b ≠ S → b ≠ it → s.heap.get? b = some o → h'.get? b = some o) → h'.get? S = some { cls := .type "list", dict := none, data := .seq acc c', slots := #[] } →
      ItemsOf (fun i v => items[items.size - 1 - i]? = some v) acc items.size → R (.ok (.ret res)) { s with heap := h', toks := tk }) :
    wpAny (model prog w) A.in1 (Builtin.List.listExtendWith (.ref S) (.ref it) res)
      (fun fin s' => match fin with | .done f => R (.ok f) s' | .again c' => c'.quiet = true ∧ codeAny (model prog w) A c' R s') (fun e s' => R (.error e) s') s := by
  have W := (Walks.listRev (prog := prog) (w := w) (A := A.in1) hh it l hne items).toS
  have hSf : S ∉ [it, l] := by simp only [List.mem_cons, List.not_mem_nil, or_false, not_or]; exact ⟨hSi, hSl⟩
  have ty : s.TypeIs (.ref it) "list_reverseiterator" := hit.typeIs
  have other : Builtin.List.listSameRef (.ref S) (.ref it) = false := by simp [Builtin.List.listSameRef, hSi]
  unfold Builtin.List.listExtendWith
  refine wpAny_bind (wpAny_typeOf ty ?_)
  rw [if_neg (by rw [other]; decide)]
  refine wpAny_bind (wpAny_pyIter_revIter hit (wpAny_bind (wpAny_holding ?_)))
  unfold Builtin.List.listLengthHint
  refine wpAny_bind (wpAny_specialOf ty nolen_lri ?_)
  show wpAny _ A.in1 (specialOf (Value.ref it) (Str.ofString "__length_hint__") >>= _) _ _ _
  refine wpAny_bind (wpAny_specialOf ty hint_lri ?_)
  generalize hid : ("list_reverseiterator.__length_hint__" : String) = id0
  wp_delta
  rw [show splitId id0 = some ("list_reverseiterator", "__length_hint__") from by subst hid; decide +kernel]
  subst hid
  refine wpAny_bind (wpAny_isInstance (b := true) ty (by rw [isSubtype_type]; kernel_rfl) (wpAny_pure ?_))
  rw [if_neg (by decide)]
  have z : ((items.size : Nat) : Int) - 1 - ((0 : Nat) : Int) = (items.size : Int) - 1 := by omega
  refine wpAny_pure ⟨plainId_quiet F.plain_extend_loop _, codeAny_extend_loopS W hn S hSf res items.size 0 _ #[] c0 rfl (Nat.zero_le _) ⟨Nat.zero_le _, by rw [z]; exact hit, hl⟩ hS (ItemsOf.nil _) fun s' acc' c' hm hS' hacc => ?_⟩
  rw [Moved.eq_with hm]
  refine hR s'.heap s'.toks acc' c' (fun b o h1 h2 e => hm.heap b o (fun hmem => ?_) e) hS' hacc
  rcases List.mem_cons.mp hmem with q | q
  · exact h1 q
  · exact h2 (List.mem_singleton.mp q)
theorem call_list_revIt {Q : Value → Shared → Prop} {it l : Addr} {items : Array Value} (hh : A.handled = none) (hit : s.heap.IsRevIter it l ((items.size : Int) - 1)) (hl : s.heap.IsList l items) (hne : l ≠ it) (hn : items.size ≤ sizeLine)
    (hQ : ∀ (h' : Heap) (tk : Nat) (acc : Array Value) (c' : Nat), (∀ b o, b ≠ it → s.heap.get? b = some o → h'.get? b = some o) → h'.get? s.heap.objs.size = some { cls := .type "list", dict := none, data := .seq acc c', slots := #[] } →
      ItemsOf (fun i v => items[items.size - 1 - i]? = some v) acc items.size → Q (.ref s.heap.objs.size) { s with heap := h', toks := tk }) :
    wpAny (model prog w) A (call (.type "list") [.ref it]) Q E s := by
  obtain ⟨oi, hoi, _⟩ := id hit
  obtain ⟨ol, hol, _⟩ := id hl
  have hSi : s.heap.objs.size ≠ it := Nat.ne_of_gt (Heap.lt_size hoi)
  have hSl : s.heap.objs.size ≠ l := Nat.ne_of_gt (Heap.lt_size hol)
  refine callType_codes (Q₁ := fun obj s₁ => obj = .ref s.heap.objs.size ∧ s₁ = { s with heap := s.heap.push { cls := .type "list", data := .seq #[] } }) F.called_list (F.typeCall_list_1 _) F.entry_list_init (code_list_new _ ⟨rfl, rfl⟩) fun obj s₁ h₁ => ?_
  obtain ⟨rfl, rfl⟩ := h₁
  have new : (s.heap.push { cls := .type "list", data := .seq #[] }).get? s.heap.objs.size = some { cls := .type "list", data := .seq #[] } := Heap.get?_push_size _ rfl
  refine ⟨⟨_, new, rfl⟩, F.args_list_init_2 _ _, ?_⟩
  show wpAny _ _ (do let old ← Builtin.List.listItems (.ref s.heap.objs.size); Builtin.List.listUpdate (.ref s.heap.objs.size) (fun _ => #[]); letGo old.toList.reverse; Builtin.List.listExtendWith (.ref s.heap.objs.size) (.ref it) .none) _ _ _
  refine wpAny_bind ?_
  unfold Builtin.List.listItems
  refine wpAny_bind (wpAny_seqItems new rfl (wpAny_pure ?_))
  refine wpAny_bind (wpAny_updateSeq new rfl ?_)
  have new2 := Heap.get?_update_self (Obj.mapSeq (fun _ => (#[] : Array Value))) new rfl
  have oth : ∀ b o, s.heap.get? b = some o → ((s.heap.push { cls := .type "list", data := .seq #[] }).update s.heap.objs.size (Obj.mapSeq (fun _ => (#[] : Array Value)))).get? b = some o :=
    fun b o e => (Heap.get?_update_other _ _ (Nat.ne_of_gt (Heap.lt_size e))).trans (Heap.get?_push_of_some _ e)
  refine wpAny_bind (wpAny_letGo ?_)
  refine extend_revL (A := A.in1) hh (hit.at fun o e => oth _ _ e) ?_ hne hn hSi hSl new2 fun h' tk acc c' hk hS' hacc => ⟨rfl, hQ h' tk acc c' (fun b o hb e => hk b o (Nat.ne_of_lt (Heap.lt_size e)) hb (oth b o e)) hS' hacc⟩
  obtain ⟨o2, h2, h3⟩ := id hl
  exact ⟨o2, oth _ _ h2, h3⟩
end
end RT
namespace G
open PySem PySem.Spec PyProof.Rows L2 RT
def tLstRev (K : PySem.W.Frag) (te : TE) : TE := fun σ H Q => te σ H fun v H1 => ∃ (a : Addr) (xs : List V), v = .ref a ∧ SqL K H1 a xs ∧ ∀ q, H1 q = none → Q (.ref q) (upd H1 q (.lst xs.reverse))
section
variable {X : Cx} {e : Expr} {te : TE} {p p2 pos pos2 : Pos} {ρ ρ1 : En} {α : Type} {f : α → PyData} {ns : List α}
theorem pe_lstRev (hc : X.calm = true) (hg : Gl X "list") (hm : X.mg "list" = none) (hg2 : Gl X "reversed") (hm2 : X.mg "reversed" = none) (he : PE X e te) (hs : starEach [e] X.env = (false, eval e X.env) :: starEach [] X.env := by rfl)
    (hs2 : starEach [.Call (.Name "reversed" p2) [e] [] pos2] X.env = (false, eval (.Call (.Name "reversed" p2) [e] [] pos2) X.env) :: starEach [] X.env := by rfl) : PE X (.Call (.Name "list" p) [.Call (.Name "reversed" p2) [e] [] pos2] [] pos) (tLstRev X.K te) := ⟨fun pins s σ H Q I h => by
  refine Call_ (ld_blt I hg hm boot_list (PyProof.Rows.callWith_type1 (args_cons (Call_ (ld_blt I hg2 hm2 PyProof.Rows.boot_reversed (PyProof.Rows.callWith_type1 (args_cons (thn (he.run pins s σ H _ I h) fun u s1 hx => args_nil ?_) hs) hs rfl))) hs2) hs2))
  obtain ⟨v, H1, I1, r1, a, xs, ev, hq, q⟩ := hx
  subst ev
  obtain rfl : u = Value.ref a := r1
  obtain ⟨its, rv, pl, hz⟩ := I1.list hq
  refine call_reversed_list pl.isList (args_nil ?_)
  have keep : ∀ b o, s1.heap.get? b = some o → (s1.heap.push (revObj a ((its.toArray.size : Int) - 1))).get? b = some o := fun b o e => Heap.get?_push_of_some _ e
  obtain ⟨ol, hol, _⟩ := id pl.isList
  have hne : a ≠ s1.heap.objs.size := Nat.ne_of_lt (Heap.lt_size hol)
  have hn : its.toArray.size ≤ sizeLine := by rw [List.size_toArray, ← rv.length]; exact hz
  refine call_list_revIt (s := { s1 with heap := s1.heap.push (revObj a ((its.toArray.size : Int) - 1)) }) (I1.ok.hd hc) ⟨_, Heap.get?_push_size _ rfl, rfl, rfl⟩ (pl.isList.push _) hne hn fun h' tk acc c' hk e' hi => ?_
  have le : s1.heap.objs.size ≤ (s1.heap.push (revObj a ((its.toArray.size : Int) - 1))).objs.size := by rw [Heap.size_push]; exact Nat.le_succ _
  refine ⟨.ref (s1.heap.push (revObj a ((its.toArray.size : Int) - 1))).objs.size, upd H1 (s1.heap.push (revObj a ((its.toArray.size : Int) - 1))).objs.size (.lst xs.reverse), I1.laid (t' := tk) (fun b o e => hk b o (Nat.ne_of_lt (Heap.lt_size e)) (keep b o e)) le (show ObjOk X.prog X.w _ h' _ (.lst xs.reverse) from ⟨by rw [List.length_reverse]; exact hz, acc.toList, c', vals_rev rv hi, by rw [Array.toArray_toList]; exact e'⟩), rfl, q _ (I1.hok.fresh le)⟩⟩
/-- list(reversed(xs)), xs data -/
theorem pn_lstRev (hc : X.calm = true) (hm : X.mg ("list" : Str) = none) (hm2 : X.mg ("reversed" : Str) = none) (h : PD X e ρ (.list (ns.map f)) ρ1) (hg : Gl X "list" := by rfl) (hg2 : Gl X "reversed" := by rfl) (hs : starEach [e] X.env = (false, eval e X.env) :: starEach [] X.env := by rfl)
    (hs2 : starEach [.Call (.Name "reversed" p2) [e] [] pos2] X.env = (false, eval (.Call (.Name "reversed" p2) [e] [] pos2) X.env) :: starEach [] X.env := by rfl) : PN X (.Call (.Name "list" p) [.Call (.Name "reversed" p2) [e] [] pos2] [] pos) ρ (.l (ns.reverse.map f)) ρ1 :=
  PE_imp (pe_lstRev hc hg hm hg2 hm2 h hs hs2) fun σ H Q ⟨C, F, se, q⟩ => ⟨C, F, se, fun v F1 H1 x1 e1 r1 => by
    cases r1 with
    | @lst a vs _ l rr =>
      refine ⟨a, vs, rfl, e1.fr.ext.l l, fun p hp => ?_⟩
      obtain ⟨h1, h2, h3, h4⟩ := e1.lay (o := .lst vs.reverse) hp
      refine q p F1 _ x1 h1 h2 h3 h4 ⟨_, upd_same, ?_⟩
      rw [List.map_reverse]
      exact rr.reverse⟩
end
end G

/-! GRise: an exception that leaves a list comprehension. -/
namespace G
open PySem PySem.Spec PyProof.Rows L2
/-- a frame is noted by its place alone -/
theorem note_same {env env' : Env} (h : env.frame = env'.frame) (e : Value) : noteFrame e env = noteFrame e env' := by
  unfold noteFrame PySem.frameOf
  rw [h]
/-- noted by another frame: noted again -/
theorem look_over {M : Model} {A : Around} {E : Value → Shared → Prop} {s : Shared} {Z : Obj → Prop} {B : Heap} {env : Env} {outer : List Env} {L a C : Addr} {Q : Unit → Shared → Prop} (sZ : PXN.Steady1 Z) (fr : A.frames = some (env :: outer)) (hf : env.frame = some L) (ne : C ≠ L)
    (x : HandSPX.HeldZ B (env :: outer) a Z C s.heap) (q : ∀ h', HandSPX.HeldZ B (env :: outer) a Z L h' → s.heap.UpToSlots h' → Q () { s with heap := h' }) : wpAny M A (noteFrame (.ref a) env) Q E s := by
  obtain ⟨kb, nb, fl, oe, vs, T, oT, ts, ea, za, da, v1, nT, Ta, eT, dT, t3⟩ := x
  unfold noteFrame
  simp only [hf]
  refine wpAny_bind (wpAny_field ea da v1 ?_)
  rw [if_pos (by simp)]
  refine wpAny_bind (wpAny_field eT dT t3 ?_)
  have nr : ¬ ((rawInt C == rawInt L) = true) := by
    intro z
    have z2 : rawInt C = rawInt L := eq_of_beq z
    unfold rawInt at z2
    injection z2 with z3
    exact ne (Int.ofNat.inj z3)
  rw [if_neg nr]
  refine wpAny_bind (wpAny_setField eT dT (Array.getElem?_eq_some_iff.mp t3).1 ?_)
  have oth : ∀ b, b ≠ T → (s.heap.update T (Obj.mapFields (·.setIfInBounds 3 Value.none))).get? b = s.heap.get? b := fun b hb => Heap.get?_update_other _ _ fun z => hb z.symm
  have nrec : ∀ b o, s.heap.get? b = some o → (∀ us, o.data ≠ .fields us) → b ≠ T := fun b o e n z => by
    subst z
    rw [eT] at e
    cases e
    exact n ts dT
  refine PXN.wpAny_entryZ sZ fr (fl.of_keeps fun b o e n => ⟨o, (oth b (nrec b o e n)).trans e, rfl⟩) hf ((oth a fun z => Ta z.symm).trans ea)
    (fun b o e => (oth b fun z => by subst z; rw [e] at nT; cases nT).trans (kb b o e)) nb da (Array.getElem?_eq_some_iff.mp v1).1 za fun h' n => ?_
  obtain ⟨y1, y2, y3, y4⟩ := n
  exact q h' ⟨y1, nb, y2, y3⟩ fun b o e n => y4 b o ((oth b (nrec b o e n)).trans e) n
/-- behind the block: how it ends, its environment known -/
def riseEnd (M : Model) (A : Around) (E : Value → Shared → Prop) (use : Option (Value → Sem Unit)) (Q : Value → Shared → Prop) (acc : Value) (ce : Env) : Result → Shared → Prop
  | .ok f, s' => compPost M A E use Q acc ce.locals (.ok f) s'
  | .error x, s' => ∃ m, s'.heap.Ns ce.locals m ∧ ∀ h', Heap.SameBut ce.locals s'.heap h' → wpAny M A (passOn "comprehension.variables-let-go" x ce : Sem Value) (fun _ _ => False) E { s' with heap := h' }
section
variable {M : Model} {A : Around} {E : Value → Shared → Prop} {s : Shared} {env : Env}
theorem rise_comp {e : Expr} {scope : Scope} {pos : Pos} {newAcc first : Sem Value} {g : Comprehension} {gs : List Comprehension} {cl : List (Str × Addr)} {use : Option (Value → Sem Unit)} {Q : Value → Shared → Prop}
    (c1 : clausesOf e = g :: gs) (c2 : ∀ x, foldedSetIterable g.iter env x = pure x) (c3 : closureFor scope env = pure cl) (c4 : scope.kind = .function) (c5 : ∀ x ∈ scope.names, x.2 = .local → scope.names.lookup x.1 = some .local)
    (h : wpAny M A first (fun x s₁ => wpAny M A (pyIter x) (fun it s₂ => wpAny M A newAcc (fun acc s₃ => wpAny M A (newFunctionEnv scope env.globals cl [] env.qual none .none (some env)) (fun cenv s₄ =>
      codeAny M A (.compStart e 0 it acc { cenv with scope := relabel scope env }) (riseEnd M A E use Q acc { cenv with scope := relabel scope env }) s₄) E s₃) E s₂) E s₁) E s) :
    wpAny M A (comprehension e scope env pos newAcc false first use) Q E s := by
  unfold comprehension
  rw [c3, c1]
  refine wpAny_bind (wpAny_mono h (fun x t1 k1 => wpAny_bind (wpAny_standAt (wpAny_bind (wpAny_of_eq (c2 x) (wpAny_bind (wpAny_holding (wpAny_mono k1 (fun it t2 k2 =>
    wpAny_standIf (wpAny_bind (wpAny_mono k2 (fun acc t3 k3 => wpAny_bind (wpAny_pure (wpAny_bind (wpAny_mono k3 (fun cenv t4 k4 => ?_) fun _ _ z => z)))) fun _ _ z => z))) fun _ _ z => z))))))) fun _ _ z => z)
  dsimp only
  have loc : ∀ x ∈ (scope.names.filter fun x => (x.2 == .local || x.2 == .cell) && x.1 != (".0" : Str)).reverse, x.2 = .local → Env.kindOf { cenv with scope := relabel scope env } x.1 = some .local :=
    fun x hx hl => lookup_relabel_local (c5 x (List.mem_filter.mp (List.mem_reverse.mp hx)).1 hl)
  have loc' : ∀ x ∈ (scope.names.filter fun x => (x.2 == .local || x.2 == .cell) && x.1 != (".0" : Str)).reverse.drop 1 ++ (scope.names.filter fun x => (x.2 == .local || x.2 == .cell) && x.1 != (".0" : Str)).reverse.take 1, x.2 = .local → Env.kindOf { cenv with scope := relabel scope env } x.1 = some .local :=
    fun x hx hl => (List.mem_append.mp hx).elim (fun z => loc x (List.mem_of_mem_drop z) hl) fun z => loc x (List.mem_of_mem_take z) hl
  refine wpAny_holding (wpAny_bind (wpAny_attempt (wpAny_holding (wpAny_run (codeAny_mono k4 fun r t5 hr => ?_)))))
  cases r with
  | error x =>
    obtain ⟨m, hn, hr⟩ := hr
    exact wpAny_bind (wpAny_holding (wpAny_comp_letGo (cenv := { cenv with scope := relabel scope env }) c4 _ t5 m loc hn fun h' m' _ hs' => wpAny_mono (hr h' hs') (fun _ _ f => f.elim) fun _ _ z => z))
  | ok f =>
    cases use with
    | none =>
      obtain ⟨m, hn, hr⟩ := hr
      exact wpAny_bind (wpAny_holding (wpAny_comp_letGo (cenv := { cenv with scope := relabel scope env }) c4 _ t5 m loc hn fun h' m' _ hs' => wpAny_pure (hr h' hs')))
    | some u =>
      refine wpAny_bind (wpAny_rule (wpAny_bind (wpAny_holding (wpAny_mono hr (fun _ t6 hr' => ?_) fun _ _ z => z))))
      obtain ⟨m, hn, hr'⟩ := hr'
      exact wpAny_bind (wpAny_comp_letGo (cenv := { cenv with scope := relabel scope env }) c4 _ t6 m loc' hn fun h' m' _ hs' => wpAny_pure (hr' h' hs'))
end
/-- frames, over another ground and heap -/
theorem funs_at {h h' B B' : Heap} : ∀ {l : List Env}, h.FunFrames B l → (∀ b ∈ frs l, ∀ o, h.get? b = some o → h'.get? b = some o) → (∀ b ∈ frs l, B'.get? b = none) → h'.FunFrames B' l
  | [], _, _, _ => trivial
  | e :: l, x, k, n => by
    obtain ⟨x1, ⟨L, o, x2, _, x3, x4⟩, x5⟩ := x
    have m0 : L ∈ frs (e :: l) := List.mem_filterMap.mpr ⟨e, List.mem_cons_self, x2⟩
    have ms : ∀ b ∈ frs l, b ∈ frs (e :: l) := fun b hb => by
      obtain ⟨f, hf, z⟩ := List.mem_filterMap.mp hb
      exact List.mem_filterMap.mpr ⟨f, List.mem_cons_of_mem _ hf, z⟩
    exact ⟨x1, ⟨L, o, x2, n L m0, k L m0 o x3, x4⟩, funs_at x5 (fun b hb => k b (ms b hb)) fun b hb => n b (ms b hb)⟩
/-- the block's context, an exception let out -/
abbrev blkR (X : Cx) (s : Shared) (H : Hp) (scope : Scope) (ce : Env) (fr : List Addr) (xe : Value → Shared → Prop) : Cx := (X.blk s H scope ce fr).tr [] xe
section
variable {X : Cx} {W : WX} {pins : List (Addr × Obj)} {σ : L2.St} {H : Hp} {s s' : Shared} {scope : Scope} {ce : Env} {fr : List Addr}
/-- an exception in the block's air goes on in the def's -/
theorem rise_take {xe : Value → Shared → Prop} {use : Option (Value → Sem Unit)} {Qf : Value → Shared → Prop} {acc u : Value} (I : Inv X pins σ H s) (hs : X.stack = X.env :: X.outer) (hf : X.env.frame = some X.env.locals) (tk : L2N.Takes X W)
    (cf : ce.frame = X.env.frame) (cl : ce.locals = s.heap.objs.size) (fk : ∀ b ∈ fr, FpOk X pins H b ∧ b < s.heap.objs.size) (x : L2N.XE (blkR X s H scope ce fr xe) (fun cls d _ H' => W cls d σ H') u s') :
    notedBy (model X.prog X.w) X.A ce (fun e s2 => riseEnd (model X.prog X.w) X.A X.xe use Qf acc ce (.error e) s2) u s' := by
  obtain ⟨a, B, sI, pb, σb, Hb, cls, d, rfl, J, nb, up, sky, na, os, ag, w⟩ := x
  have frm : X.A.frames = some (X.env :: X.outer) := by rw [I.ok.frames, hs]
  have lt : X.env.locals < s.heap.objs.size := I.lt
  have notF : ∀ b ∈ frs X.stack, b ≠ ce.locals := fun b hb z => by
    obtain ⟨_, o, e, _⟩ := I.stack.mem hb
    have := Heap.lt_size e
    rw [z, cl] at this
    exact Nat.lt_irrefl _ this
  have freeC : Hb ce.locals = none := J.free
  have sky' : Sky B (X.env :: X.outer) a (L2N.Zn cls d) ce.locals s'.heap := by rw [← hs]; exact sky
  obtain ⟨mC, nsC, _⟩ := J.loc
  obtain ⟨oC, es, ep, eC, dC, kC, fC⟩ := nsC
  have eC : sI.heap.get? ce.locals = some oC := eC
  have nfC : ∀ vs, oC.data ≠ .fields vs := fun vs z => by rw [dC] at z; cases z
  have bC : B.get? ce.locals = some oC := nb _ _ eC fun z => notF _ z rfl
  have aC : ∀ {b}, B.get? b = none → b ≠ ce.locals := fun {b} e z => by rw [z, bC] at e; cases e
  show wpAny (model X.prog X.w) X.A (noteFrame (.ref a) ce) (fun _ s2 => riseEnd (model X.prog X.w) X.A X.xe use Qf acc ce (.error (.ref a)) s2) _ s'
  rw [note_same cf]
  have go : ∀ h2, HandSPX.HeldZ B (X.env :: X.outer) a (L2N.Zn cls d) X.env.locals h2 → s'.heap.UpToSlots h2 → riseEnd (model X.prog X.w) X.A X.xe use Qf acc ce (.error (.ref a)) { s' with heap := h2 } := by
    intro h2 hh up2
    obtain ⟨sl1, e1⟩ := up _ _ eC nfC
    obtain ⟨sl2, e2⟩ := up2 _ _ e1 nfC
    refine ⟨mC, ⟨_, es, ep, e2, dC, kC, fC⟩, fun h3 sb => ?_⟩
    obtain ⟨B', b1, b2⟩ := restrict B fun b => decide (b ≠ ce.locals)
    obtain ⟨G, g1, g2⟩ := restrict sI.heap fun b => decide (b ≠ ce.locals)
    have bs : ∀ b o, B'.get? b = some o → b ≠ ce.locals ∧ B.get? b = some o := fun b o e => by
      by_cases q : b = ce.locals
      · rw [b2 b (decide_eq_false (fun z => z q))] at e; cases e
      · exact ⟨q, (b1 b (decide_eq_true q)).symm.trans e⟩
    have gs : ∀ b o, G.get? b = some o → b ≠ ce.locals ∧ sI.heap.get? b = some o := fun b o e => by
      by_cases q : b = ce.locals
      · rw [g2 b (decide_eq_false (fun z => z q))] at e; cases e
      · exact ⟨q, (g1 b (decide_eq_true q)).symm.trans e⟩
    have bn : ∀ b, B.get? b = none → B'.get? b = none := fun b e => (b1 b (decide_eq_true (aC e))).trans e
    have gk : ∀ b o, b ≠ ce.locals → sI.heap.get? b = some o → G.get? b = some o := fun b o q e => (g1 b (decide_eq_true q)).trans e
    have sb2 : ∀ b o, b ≠ ce.locals → h2.get? b = some o → h3.get? b = some o := fun b o q e => (sb.2 b q).trans e
    obtain ⟨y1, y2, y3, oe, vs, T, oT, ts, ea, za, da, v1, nT, Ta, eT, dT, t3⟩ := hh
    have nfr : ∀ b ∈ frs (X.env :: X.outer), b ≠ ce.locals := fun b hb => notF b (by rw [hs]; exact hb)
    have hh3 : HandSPX.HeldZ B' (X.env :: X.outer) a (L2N.Zn cls d) X.env.locals h3 :=
      ⟨fun b o e => sb2 b o (bs b o e).1 (y1 b o (bs b o e).2), bn a y2, funs_at y3 (fun b hb o e => sb2 b o (nfr b hb) e) (fun b hb => bn b (y3.mem hb).1),
        oe, vs, T, oT, ts, sb2 a oe (aC y2) ea, za, da, v1, bn T nT, Ta, sb2 T oT (aC nT) eT, dT, t3⟩
    have IG : Inv X pins σ Hb { sI with heap := G } := by
      refine I.call' (ch := fr) J.os ⟨?_, ?_, J.base.free, ?_, J.base.tups, J.base.frzs, J.base.tbls⟩ (fun b o q => (J.hok b o q).stay (fun c v hc r => gk c v (fun z => ?_) r) (fun _ r => r) fun _ _ r => r) J.bare
        fun b hb => ⟨(fk b hb).1.2.2.2.1, (fk b hb).1.2.1, (fk b hb).1.2.2.2.2.1, (fk b hb).1.2.2.2.2.2⟩
      · exact fun b o e n f x => gk b o (fun z => by have := Heap.lt_size e; rw [z, cl] at this; exact Nat.lt_irrefl _ this) (J.base.keep b o e n f x)
      · intro b o e n f x
        obtain ⟨sl, z⟩ := J.base.slot b o e n f x
        exact ⟨sl, gk b _ (fun z => by have := Heap.lt_size e; rw [z, cl] at this; exact Nat.lt_irrefl _ this) z⟩
      · intro b o e x
        obtain ⟨o', z⟩ := J.base.there b o e x
        exact ⟨o', gk b _ (fun z => by have := Heap.lt_size e; rw [z, cl] at this; exact Nat.lt_irrefl _ this) z⟩
      · subst z
        rcases hc with hc | hc
        · rw [← hc, freeC] at q; cases q
        · rw [freeC] at hc; cases hc
    unfold PySem.passOn
    refine wpAny_bind (wpAny_field hh3.2.2.2.choose_spec.choose_spec.choose_spec.choose_spec.choose_spec.1 hh3.2.2.2.choose_spec.choose_spec.choose_spec.choose_spec.choose_spec.2.2.1 hh3.2.2.2.choose_spec.choose_spec.choose_spec.choose_spec.choose_spec.2.2.2.1 ?_)
    rw [if_neg (by simp)]
    have fin : wpAny (model X.prog X.w) X.A (setFlight (.ref a) ce.frame) (fun _ s4 => wpAny (model X.prog X.w) X.A (throw (.ref a) : Sem Value) (fun _ _ => False) X.xe s4) X.xe { s' with heap := h3 } := by
      rw [cf, hf]
      refine HandSPX.setFlight_onZ hh3 fun h4 hh4 up4 => wpAny_throw (tk _ _ ?_)
      refine ⟨a, B', { sI with heap := G }, pins, σ, Hb, cls, d, rfl, IG, fun b o e q => (b1 b (decide_eq_true (gs b o e).1)).trans (nb b o (gs b o e).2 q), fun b o e n => ?_, .inr (.inr (by rw [hs]; exact hh4)), na, os, ag, w⟩
      obtain ⟨q, e0⟩ := gs b o e
      obtain ⟨s1, e1⟩ := up b o e0 n
      obtain ⟨s2, e2⟩ := up2 b _ e1 n
      obtain ⟨s3, e3⟩ := up4 b _ (sb2 b _ q e2) n
      exact ⟨s3, e3⟩
    first
    | exact wpAny_bind fin
    | exact wpAny_bind (wpAny_pure (wpAny_bind fin))
  rcases sky' with ⟨k1, k2, k3, oe, vs, k4, k5, k6, k7⟩ | k | k
  · exact PXN.look_newZ L2N.Zn.steady frm k3 hf k4 k1 k2 k6 k7 k5 go
  · exact PXN.looks_onZ L2N.Zn.steady frm hf k go
  · exact look_over L2N.Zn.steady frm hf (fun z => Nat.lt_irrefl _ (by rw [← z, cl] at lt; exact lt)) k go
end
end G

/-! GRise2: a list comprehension whose element may raise. -/
namespace G
open PySem PySem.Spec PyProof.Rows L2
section
variable {X : Cx} {W : WX} {pins : List (Addr × Obj)} {σ : L2.St} {H : Hp} {s : Shared} {scope : Scope} {own : List (Str × Nat)} {elt tg iter : Expr} {ifs : List Expr} {wi : TI} {g : TG} {tt : TT} {te : WX → TE}
theorem lc_rise {Q : VK} {pos pos' : Pos} {use : Option (Value → Sem Unit)} {Qf : Value → Shared → Prop} (hc : X.calm = true) (hs : X.stack = X.env :: X.outer) (hf : X.env.frame = some X.env.locals) (tk : L2N.Takes X W) (hN : X.N.Nodup) (I : Inv X pins σ H s) (hi : PI X tg iter wi) (bo : BlkOk X.N X.env.scope scope own)
    (hg : ∀ (s : Shared) (H : Hp) (C : Addr) (cl : List (Str × Addr)) (fr : List Addr) (xe : Value → Shared → Prop), PG (blkR X s H scope (compEnvC scope cl C X.env) fr xe) tg g)
    (ht : ∀ (s : Shared) (H : Hp) (C : Addr) (cl : List (Str × Addr)) (fr : List Addr) (xe : Value → Shared → Prop), PTs (blkR X s H scope (compEnvC scope cl C X.env) fr xe) ifs tt)
    (he : ∀ (s : Shared) (H : Hp) (C : Addr) (cl : List (Str × Addr)) (fr : List Addr) (xe : Value → Shared → Prop) (Wb : WX), L2N.Takes (blkR X s H scope (compEnvC scope cl C X.env) fr xe) Wb → PE (blkR X s H scope (compEnvC scope cl C X.env) fr xe) elt (te Wb))
    (hfold : ∀ x, foldedSetIterable iter X.env x = pure x) (h : tLc wi g tt (te fun cls d _ H' => W cls d σ H') (own.map (·.2)) σ H Q)
    (hEnd : ∀ L C s' m H', Inv X pins σ H' s' → Q (.ref L) H' → s'.heap.Ns C m → FpOk X pins H' C → compPost (model X.prog X.w) X.A X.xe use Qf (.ref L) C (.ok .next) s') :
    wpAny (model X.prog X.w) X.A (comprehension (.ListComp elt [⟨tg, iter, ifs, 0⟩] scope pos) scope X.env pos' (newList []) false (eval iter X.env) use) Qf X.xe s := by
  have frees : ∀ y ∈ scope.names, y.2 = .free → ∃ c, X.env.cells.lookup y.1 = some c := fun y hy e => (bo.free y hy e).elim (fun k => I.ok.has _ (.inl k)) (fun k => I.ok.has _ (.inr k))
  refine rise_comp (use := use) rfl hfold (closure_ok frees) bo.kind (fun y hy e => (bo.uniq y hy).trans (congrArg some e))
    (thn (hi.run pins s σ H _ I h) fun xv s1 hx => thn hx fun iv s2 ⟨it, fr, tr, J, H2, ev, I2, T, t2, fk2, q⟩ => ?_)
  subst ev
  refine wpAny_newObj_type (newEnv_comp ?_) (by show 0 ≤ sizeLine; decide)
  generalize eL : s2.heap.objs.size = L
  have fresh : H2 L = none := I2.hok.fresh (Nat.le_of_eq eL)
  obtain ⟨Wk, ⟨m0, w0⟩, turn⟩ := q L fresh
  generalize e3 : ({ s2 with heap := s2.heap.push { cls := .type "list", data := .seq ([] : List Value).toArray } } : Shared) = s3
  have hp3 : s3.heap = s2.heap.push { cls := .type "list", data := .seq ([] : List Value).toArray } := by rw [← e3]
  have I3 : Inv X pins σ (upd H2 L (.lst [])) s3 := by
    rw [← e3]
    exact I2.laid (t' := s2.toks) (fun b o e => Heap.get?_push_of_some _ e) (Nat.le_of_eq eL) ⟨Nat.zero_le _, [], 0, .nil, by rw [← eL]; exact Heap.get?_push_size _ rfl⟩
  have small : ∀ b ∈ fr, b < s2.heap.objs.size := fun b hb => (T.obj _ _ t2 b hb).elim fun o e => Heap.lt_size e.1
  have fk3 : ∀ b ∈ fr, FpOk X pins (upd H2 L (.lst [])) b ∧ b < s3.heap.objs.size := fun b hb =>
    ⟨⟨by rw [upd_ne (by rw [← eL]; exact Nat.ne_of_lt (small b hb))]; exact (fk2 b hb).1, (fk2 b hb).2⟩, by rw [hp3, Heap.size_push]; exact Nat.lt_succ_of_lt (small b hb)⟩
  have t3 : tr 0 s3.heap := T.keep _ _ _ t2 fun b _ o e => by rw [hp3]; exact Heap.get?_push_of_some _ e
  have I40 := block_start I3 bo hN fk3
  generalize ece : compEnvC scope (cellsFrom (s3.heap.objs.size + 1) scope.names (cloFrom X.env.cells scope.names [])) s3.heap.objs.size X.env = ce at I40
  have loc : ce.locals = s3.heap.objs.size := by rw [← ece]; rfl
  have cf : ce.frame = X.env.frame := by rw [← ece]; rfl
  generalize exe : (notedBy (model X.prog X.w) X.A ce fun e s2 => riseEnd (model X.prog X.w) X.A X.xe use Qf (.ref L) ce (.error e) s2) = xe
  have I4 : Inv (blkR X s3 (upd H2 L (.lst [])) scope ce fr xe) [] (wipe σ (own.map (·.2))) (upd H2 L (.lst [])) { s3 with heap := pushCells (s3.heap.push { cls := .type "dict", data := .dict #[] }) scope.names } := I40.toTry xe
  have pg := hg s3 (upd H2 L (.lst [])) s3.heap.objs.size (cellsFrom (s3.heap.objs.size + 1) scope.names (cloFrom X.env.cells scope.names [])) fr xe
  have pt := ht s3 (upd H2 L (.lst [])) s3.heap.objs.size (cellsFrom (s3.heap.objs.size + 1) scope.names (cloFrom X.env.cells scope.names [])) fr xe
  have tkb : L2N.Takes (blkR X s3 (upd H2 L (.lst [])) scope ce fr xe) (fun cls d _ H' => W cls d σ H') := fun u s' x => by
    show xe u s'
    rw [← exe]
    exact rise_take I3 hs hf tk cf loc fk3 x
  have pe := he s3 (upd H2 L (.lst [])) s3.heap.objs.size (cellsFrom (s3.heap.objs.size + 1) scope.names (cloFrom X.env.cells scope.names [])) fr xe (fun cls d _ H' => W cls d σ H')
  rw [ece] at pg pt pe
  have pe := pe tkb
  show codeAny _ _ (.compStart (.ListComp elt [⟨tg, iter, ifs, 0⟩] scope pos) 0 (.ref it) (.ref L) (compEnvC scope (cellsFrom (s3.heap.objs.size + 1) scope.names (cloFrom X.env.cells scope.names [])) s3.heap.objs.size X.env)) (riseEnd (model X.prog X.w) X.A X.xe use Qf (.ref L) (compEnvC scope (cellsFrom (s3.heap.objs.size + 1) scope.names (cloFrom X.env.cells scope.names [])) s3.heap.objs.size X.env)) { s3 with heap := pushCells (s3.heap.push { cls := .type "dict", data := .dict #[] }) scope.names }
  rw [ece]
  have none3 : ∀ b ∈ fr, (upd H2 L (.lst [])) b = none := fun b hb => (fk3 b hb).1.1
  generalize eH : upd H2 L (.lst []) = H3 at I3 I4 pg pt pe w0 none3 fk3
  generalize e4 : ({ s3 with heap := pushCells (s3.heap.push { cls := .type "dict", data := .dict #[] }) scope.names } : Shared) = s4 at I4 ⊢
  have t4 : tr 0 s4.heap := T.keep _ _ _ t3 fun b _ o e => by rw [← e4]; exact pushCells_keeps _ _ _ _ (Heap.get?_push_of_some _ e)
  have fk : ∀ {σ' : L2.St} {H' : Hp} {s' : Shared}, Inv (blkR X s3 H3 scope ce fr xe) [] σ' H' s' → (∀ b ∈ fr, H' b = none) → ∀ b ∈ fr, FpOk (blkR X s3 H3 scope ce fr xe) [] H' b := fun {σ' H' s'} J hn b hb =>
    ⟨hn b hb, (J.ok.exf b hb).1, J.ok.exfs b hb, .inl hb, fun x c e => (J.ok.exf b hb).2 x c e, fun p hp => absurd (show p ∈ ([] : List (Addr × Obj)) ++ [] from hp) (by simp)⟩
  have xeq : ∀ u s', xe u s' → notedBy (model X.prog X.w) X.A ce (fun e s2 => riseEnd (model X.prog X.w) X.A X.xe use Qf (.ref L) ce (.error e) s2) u s' := fun u s' z => by rw [exe]; exact z
  have loop : codeAny (model X.prog X.w) X.A (.compLoop (.ListComp elt [⟨tg, iter, ifs, 0⟩] scope pos) 0 (.ref it) (.ref L) ce) (riseEnd (model X.prog X.w) X.A X.xe use Qf (.ref L) ce) s4 := by
    refine compLoop_any (fun n s' => ∃ i H', Inv (blkR X s3 H3 scope ce fr xe) [] (wipe σ (own.map (·.2))) H' s' ∧ tr i s'.heap ∧ (∀ b ∈ fr, H' b = none) ∧ Wk i n H') ?_ m0 ⟨0, H3, I4, t4, none3, w0⟩
    rintro n s5 ⟨i, H5, I5, t5, n5, w5⟩
    rcases turn i n H5 w5 with ⟨stop, qq⟩ | ⟨go, Nx, hNx, step⟩
    · refine thnF (T.done (blkR X s3 H3 scope ce fr xe) rfl rfl rfl hc i [] s5 _ H5 (fun _ _ => False) I5 (fk I5 n5) t5 stop) fun r s6 ⟨hr, I6⟩ => ?_
      subst hr
      have I7 : Inv X pins σ H5 s6 := I3.call' (ch := fr) I6.os I6.base I6.hok I6.bare fun b hb =>
        have z := (fk3 b hb).1.2
        ⟨z.2.2.1, z.1, z.2.2.2.1, z.2.2.2.2⟩
      have nC : H5 s3.heap.objs.size = none := loc ▸ I6.free
      obtain ⟨m, hn, _⟩ := I6.loc
      have hn2 : s6.heap.Ns ce.locals m := hn
      show compPost (model X.prog X.w) X.A X.xe use Qf (.ref L) ce.locals (.ok .next) s6
      rw [loc] at hn2 ⊢
      exact hEnd L s3.heap.objs.size s6 m H5 I7 qq hn2 (I3.fpOk (Nat.le_refl _) nC)
    · refine thnF (T.item (blkR X s3 H3 scope ce fr xe) rfl rfl rfl hc i [] s5 _ H5 (fun _ _ => False) I5 (fk I5 n5) t5 go) fun r s6 ⟨u, hr, h6⟩ => ?_
      subst hr
      refine thnF h6 fun _ s7 ⟨x, H7, I7, r7, y7, t7, n7⟩ => ?_
      have P7 := I7.pinned (fk I7 n7) (T.obj _ _ t7)
      refine wpAny_mono (pg.run _ s7 _ H7 x u _ P7 r7 (step x H7 y7)) (fun _ s8 ⟨σ8, H8, I8, hw8, q8⟩ => ?_) xeq
      refine wpAny_mono (pt.run _ s8 σ8 H8 _ I8 q8) (fun b s9 ⟨H9, I9, q9⟩ => ?_) xeq
      have close : ∀ {s' : Shared} {H' : Hp}, Inv (blkR X s3 H3 scope ce fr xe) ([] ++ pinsAt fr s7.heap) σ8 H' s' → Nx H' →
          ∃ m, m < n ∧ ∃ i H', Inv (blkR X s3 H3 scope ce fr xe) [] (wipe σ (own.map (·.2))) H' s' ∧ tr i s'.heap ∧ (∀ b ∈ fr, H' b = none) ∧ Wk i m H' := fun {s' H'} J nx => by
        obtain ⟨m', hm, w'⟩ := hNx H' nx
        have kept : ∀ b ∈ fr, ∀ o, s7.heap.get? b = some o → s'.heap.get? b = some o ∧ H' b = none := fun b hb o e =>
          have z := J.pin (b, o) (List.mem_append_right _ (List.mem_append_right _ (mem_pinsAt hb e)))
          ⟨z.1, z.2.1⟩
        refine ⟨m', hm, i + 1, H', (J.unpinned (pins := [])).weak (by rw [← hw8, wipe_length]) (fun j v e => ?_), T.keep _ _ _ t7 fun b hb o e => (kept b hb o e).1, fun b hb => (T.obj _ _ t7 b hb).elim fun o e => (kept b hb o e.1).2, w'⟩
        rw [← hw8] at e
        exact (wipe_some e).1
      cases b with
      | false =>
        rw [if_neg Bool.false_ne_true] at q9
        exact iteF (close I9 q9)
      | true =>
        rw [if_pos rfl] at q9
        refine iteT (wpAny_mono (pe.run _ s9 σ8 H9 _ I9 q9) (fun z s10 ⟨yv, H10, I10, r10, acc, hL10, hz10, nx⟩ => ?_) xeq)
        exact app_ok (X := blkR X s3 H3 scope ce fr xe) I10 hL10 hz10 r10 fun s11 I11 => close I11 nx
  exact codeAny_compStart_list loop (T.self X.A 0 _ _ _ t4 loop)
theorem pe_lcR {pos : Pos} (hc : X.calm = true) (hs : X.stack = X.env :: X.outer) (hf : X.env.frame = some X.env.locals) (tk : L2N.Takes X W) (hN : X.N.Nodup) (hi : PI X tg iter wi) (bo : BlkOk X.N X.env.scope scope own)
    (hg : ∀ (s : Shared) (H : Hp) (C : Addr) (cl : List (Str × Addr)) (fr : List Addr) (xe : Value → Shared → Prop), PG (blkR X s H scope (compEnvC scope cl C X.env) fr xe) tg g)
    (ht : ∀ (s : Shared) (H : Hp) (C : Addr) (cl : List (Str × Addr)) (fr : List Addr) (xe : Value → Shared → Prop), PTs (blkR X s H scope (compEnvC scope cl C X.env) fr xe) ifs tt)
    (he : ∀ (s : Shared) (H : Hp) (C : Addr) (cl : List (Str × Addr)) (fr : List Addr) (xe : Value → Shared → Prop) (Wb : WX), L2N.Takes (blkR X s H scope (compEnvC scope cl C X.env) fr xe) Wb → PE (blkR X s H scope (compEnvC scope cl C X.env) fr xe) elt (te Wb))
    (hfold : ∀ x, foldedSetIterable iter X.env x = pure x := by intro _; rfl) : PE X (.ListComp elt [⟨tg, iter, ifs, 0⟩] scope pos) (fun σ H Q => tLc wi g tt (te fun cls d _ H' => W cls d σ H') (own.map (·.2)) σ H Q) := ⟨fun pins s σ H Q I h => by
  rw [eval_ListComp]
  exact lc_rise hc hs hf tk hN I hi bo hg ht he hfold h fun L C s' m H' J q hn ⟨f0, f1, f2, f3, f4, f5⟩ => ⟨m, hn, fun h'' sb => ⟨.ref L, H', J.turned (t' := s'.toks) (fun b o hb e => (sb.2 b hb).trans e) f0 f1 f3 f4 f5, rfl, q⟩⟩⟩
end
end G

/-! GRise3: in words of data: the j-th element of a list comprehension raises. -/
namespace G
open PySem PySem.Spec PyProof.Rows L2
def IsBlkR (X : Cx) (scope : Scope) (Y : Cx) : Prop := ∃ (s : Shared) (H : Hp) (C : Addr) (cl : List (Str × Addr)) (fp : List Addr) (xe : Value → Shared → Prop), Y = blkR X s H scope (compEnvC scope cl C X.env) fp xe
section
variable {X : Cx} {W : WX} {tg elt iter : Expr} {pos : Pos} {ρ ρ1 : En} {its : List PyData} {ok : En → Prop} {src : Option Nat} {scope : Scope} {own : List (Str × Nat)} {cls : Value} {fs : List (Str × PyData)} {j : Nat} {ρt ρe : Nat → En} {y : Nat → PyData}
theorem PE_exR {ι : Type} {Y : Cx} {t : ι → TE} (h : ∀ i, PE Y elt (t i)) : PE Y elt (fun σ H Q => ∃ i, t i σ H Q) := ⟨fun pins s σ H Q I ⟨i, q⟩ => (h i).run pins s σ H Q I q⟩
theorem px_lc (hs : X.stack = X.env :: X.outer) (hf : X.env.frame = some X.env.locals) (tk : L2N.Takes X W) (hN : X.N.Nodup) (hb : BlkOk X.N X.env.scope scope own) (hi : ID X tg iter ρ its ok src ρ1) (hsrc : ∀ k, src = some k → k ∉ own.map (·.2)) (hok : ok (wipeE ρ1 (own.map (·.2)))) (hlen : its.length < 100000) (hj : j < its.length)
    (hT : ∀ i d, i ≤ j → its[i]? = some d → ∀ Y, IsBlkR X scope Y → GV Y (own.map (·.2)) tg d (wipeE ρ1 (own.map (·.2))) (ρt i))
    (hE : ∀ i d, i < j → its[i]? = some d → ∀ Y, IsBlkR X scope Y → PE Y elt (tP X.K (ρt i) (y i) (ρe i)))
    (hX : ∀ d, its[j]? = some d → ∀ (Y : Cx) (Wb : WX), IsBlkR X scope Y → L2N.Takes Y Wb → PE Y elt (tX X.K Wb (ρt j) cls fs (ρe j)))
    (hL : ∀ i, i ≤ j → Le (wipeE ρ1 (own.map (·.2))) (ρe i)) (hc : X.calm = true := by rfl) (hfold : ∀ x, foldedSetIterable iter X.env x = pure x := by intro _; rfl) : PX X W (.ListComp elt [⟨tg, iter, [], 0⟩] scope pos) ρ cls fs (restE ρ1 ρ1 (own.map (·.2))) := by
  obtain ⟨dj, hdj⟩ : ∃ d, its[j]? = some d := ⟨its[j], List.getElem?_eq_getElem hj⟩
  let te : WX → TE := fun Wb σ H Q => ∃ p : Option { p : Nat × PyData // p.1 < j ∧ its[p.1]? = some p.2 }, (match p with
    | some p => tP X.K (ρt p.1.1) (y p.1.1) (ρe p.1.1)
    | none => tX X.K Wb (ρt j) cls fs (ρe j)) σ H Q
  have hg := fun (s : Shared) (H : Hp) (C : Addr) (cl : List (Str × Addr)) (fp : List Addr) (xe : Value → Shared → Prop) => PG_ex (t := fun (p : { p : Nat × PyData // p.1 ≤ j ∧ its[p.1]? = some p.2 }) => tGv X.K (own.map (·.2)) p.1.2 (wipeE ρ1 (own.map (·.2))) (ρt p.1.1)) fun p => hT p.1.1 p.1.2 p.2.1 p.2.2 _ ⟨s, H, C, cl, fp, xe, rfl⟩
  have he : ∀ (s : Shared) (H : Hp) (C : Addr) (cl : List (Str × Addr)) (fp : List Addr) (xe : Value → Shared → Prop) (Wb : WX), L2N.Takes (blkR X s H scope (compEnvC scope cl C X.env) fp xe) Wb → PE (blkR X s H scope (compEnvC scope cl C X.env) fp xe) elt (te Wb) := fun s H C cl fp xe Wb tkb => PE_exR fun p => by
    cases p with
    | some p => exact hE p.1.1 p.1.2 p.2.1 p.2.2 _ ⟨s, H, C, cl, fp, xe, rfl⟩
    | none => exact hX dj hdj _ Wb ⟨s, H, C, cl, fp, xe, rfl⟩ tkb
  refine PE_imp (pe_lcR (te := te) hc hs hf tk hN hi hb hg (fun _ _ _ _ _ _ => pts_nil) he hfold) fun σ H Q ⟨C, F, se, q⟩ => ⟨C, F, se, fun J F1 H1 x1 e1 wk => ?_⟩
  generalize evs : own.map (·.2) = vs at *
  intro Dl hD
  have w0 := (e1.le (wipeE_le ρ1 vs)).wiped
  have c0 : C.H0 Dl = none := e1.fr.there Dl hD
  have fD : F1 Dl = none := e1.fr.ext.none hD
  let St (i : Nat) (H' : Hp) : Prop := ∃ F' acc, Ex F1 F' ∧ SE X.K C F' H' (L2.wipe σ vs) (wipeE ρ1 vs) ∧ F' Dl = none ∧ H' Dl = some (.lst acc) ∧ (∀ j, ¬ Owns (L2.wipe σ vs) (wipeE ρ1 vs) j Dl) ∧ acc.length = i
  refine ⟨fun i m H => m = j - i ∧ i ≤ j ∧ St i H, ⟨j, by simp, Nat.zero_le _, F1, [], .refl _, w0.grow (.side w0.fr.ext hD), fD, upd_same, not_owns_new w0 hD, rfl⟩, ?_⟩
  rintro i m H2 ⟨rfl, hle, F2, acc, x2, e2, f2, h2, n2, al⟩
  have same : ∀ k, src = some k → (L2.wipe σ vs)[k]? = σ[k]? := fun k z => wipe_out (hsrc k z)
  refine .inr ⟨wk.go i _ F2 H2 _ _ x2 e2 hok same (by omega), fun H' => i < j ∧ St (i + 1) H', fun H' z => ⟨j - (i + 1), by omega, rfl, z.1, z.2⟩, fun v H3 yl => ?_⟩
  have e2' := e2.pin c0 h2 n2
  obtain ⟨d, F3, hd, x3, e3, r3⟩ := wk.yld i _ F2 H2 _ _ v H3 x2 e2' hok same (by omega) yl
  refine ⟨⟨(i, d), hle, hd⟩, _, F3, e3, r3, fun σ4 F4 H4 w4' x4 e4 => ?_⟩
  have w4 := w4'.trans wipe_wipe
  refine ⟨w4, ?_⟩
  unfold tYes
  refine iteT ?_
  have nx := hL i hle
  by_cases hij : i < j
  · refine ⟨some ⟨(i, d), hij, hd⟩, _, F4, e4, fun yv F5 H5 x5 e5 r5 => ?_⟩
    obtain ⟨e6, f6, h6, n6⟩ := SE.unpin e2.fr c0 f2 (e5.le nx).wiped
    rw [w4] at e6 n6
    exact ⟨acc, h6, by rw [al]; exact line_lt (by omega), hij, F5, acc ++ [yv], x2.trans (x3.trans (x4.trans x5)), e6.wrx c0 f6 h6 n6, f6, upd_same, n6, by rw [List.length_append, al]; rfl⟩
  · have ei : i = j := by omega
    subst ei
    refine ⟨none, _, F4, e4, fun de F5 H5 x5 e5 r5 => ?_⟩
    obtain ⟨e6, f6, h6, n6⟩ := SE.unpin e2.fr c0 f2 (e5.le nx).wiped
    rw [w4] at e6
    have xx := x2.trans (x3.trans (x4.trans x5))
    exact q de F5 H5 (x1.trans xx) (SE.back e1 xx e6).1 r5
end
end G

/-! GMix: lists of unlike things; ints as numbers that may be True. -/
namespace G
open PySem PySem.Spec PyProof.Rows L2
def dM3 {α β γ : Type} (f : α → PyData) (g : β → PyData) (h : γ → PyData) (x : α × β × γ) : PyData := .list [f x.1, g x.2.1, h x.2.2]
theorem lv_up (ns : List Int) : dL PyData.int ns = dL dV (ns.map some) := by
  unfold dL
  rw [List.map_map]
  rfl

/-- a text in a tuple of texts -/
theorem any_eqS {t : Str} : ∀ ss : List Str, inV (.str t) (ss.map V.str) = decide (t ∈ ss)
  | [] => rfl
  | z :: ss => by
    have ih := any_eqS (t := t) ss
    unfold inV at ih ⊢
    rw [List.map_cons, List.any_cons, ih]
    show (z == t || _) = _
    rw [Bool.eq_iff_iff, Bool.or_eq_true, beq_iff_eq, decide_eq_true_iff, decide_eq_true_iff, List.mem_cons]
    exact ⟨fun h => h.imp Eq.symm id, fun h => h.imp Eq.symm id⟩
theorem flat_strs : ∀ ss : List Str, (ss.map V.str).all flatV = true
  | [] => rfl
  | z :: ss => by rw [List.map_cons, List.all_cons, flat_strs ss]; rfl
theorem pd_inSt {X : Cx} {a b : Expr} {pos : Pos} {ρ ρ1 ρ2 : En} {t : Str} {ss : List Str} (ha : PD X a ρ (.str t) ρ1) (hb : PD X b ρ1 (.tuple (ss.map .str)) ρ2) (hm : behindInMarks .In b = false := by rfl) : PD X (.Compare a [.In] [b] pos) ρ (.bool (decide (t ∈ ss))) ρ2 :=
  PE_imp (pe_cmpR op_in_seq ha hb hm) fun σ H Q ⟨C, F, se, q⟩ => ⟨C, F, se, fun v F1 H1 x1 e1 r1 => ⟨C, F1, e1, fun w F2 H2 x2 e2 r2 => by
    cases r2 with
    | tup h1 h2 =>
      rw [h2.strs_inv] at h1
      rw [rp_str r1]
      refine ⟨_, _, rfl, .inr (SqT.of (e2.fr.ext _ _ h1)), rfl, flat_strs ss, ?_⟩
      rw [show (if false = true then _ else inV (.str t) (ss.map V.str)) = inV (.str t) (ss.map V.str) from rfl, any_eqS]
      exact q _ F2 H2 (x1.trans x2) e2 (.bl _)⟩⟩
end G

/-! GDict: dicts: a body's own, and as data. -/
namespace G
open PySem PySem.Spec PyProof.Rows L2
/-! ### tables -/
section
variable {κ α : Type} [DecidableEq κ]
def gv (m : List (κ × α)) (k : κ) : Option α := match m with | [] => none | p :: r => if p.1 = k then some p.2 else gv r k
def hasK (m : List (κ × α)) (k : κ) : Bool := (gv m k).isSome
/-- in its place, or at the end -/
def rv (m : List (κ × α)) (k : κ) (v : α) : List (κ × α) := m.map fun q => if q.1 = k then (q.1, v) else q
theorem rv_len (m : List (κ × α)) (k : κ) (v : α) : (rv m k v).length = m.length := List.length_map _
theorem rv_keys (m : List (κ × α)) (k : κ) (v : α) : (rv m k v).map (·.1) = m.map (·.1) := by
  unfold rv
  rw [List.map_map]
  refine List.map_congr_left fun q _ => ?_
  show (if q.1 = k then (q.1, v) else q).1 = q.1
  split <;> rfl
theorem rv_out {k : κ} {v : α} : ∀ {r : List (κ × α)}, k ∉ r.map (·.1) → rv r k v = r
  | [], _ => rfl
  | p :: r, h => by
    rw [List.map_cons, List.mem_cons] at h
    show (if p.1 = k then (p.1, v) else p) :: rv r k v = _
    rw [if_neg (fun z => h (.inl z.symm)), rv_out (fun z => h (.inr z))]
def pv (m : List (κ × α)) (k : κ) (v : α) : List (κ × α) := match m with | [] => [(k, v)] | p :: r => if p.1 = k then (k, v) :: rv r k v else p :: pv r k v
theorem gv_pv (m : List (κ × α)) (k j : κ) (v : α) : gv (pv m k v) j = if k = j then some v else gv m j := by
  induction m with
  | nil => rfl
  | cons p r ih =>
    unfold pv
    by_cases h : p.1 = k
    · rw [if_pos h]
      show (if k = j then some v else gv (rv r k v) j) = _
      by_cases h2 : k = j
      · rw [if_pos h2, if_pos h2]
      · rw [if_neg h2, if_neg h2]
        show _ = if p.1 = j then some p.2 else gv r j
        rw [if_neg (fun z => h2 (h ▸ z))]
        clear ih
        induction r with
        | nil => rfl
        | cons q r ih2 =>
          show (if (if q.1 = k then (q.1, v) else q).1 = j then some (if q.1 = k then (q.1, v) else q).2 else gv (rv r k v) j) = (if q.1 = j then some q.2 else gv r j)
          rw [ih2]
          by_cases h3 : q.1 = k
          · rw [if_pos h3, if_neg (fun z => h2 (h3 ▸ z)), if_neg (fun z => h2 (h3 ▸ z))]
          · rw [if_neg h3]
    · rw [if_neg h]
      show (if p.1 = j then some p.2 else gv (pv r k v) j) = _
      rw [ih]
      show _ = if k = j then some v else (if p.1 = j then some p.2 else gv r j)
      by_cases h2 : k = j
      · subst h2; rw [if_neg h, if_pos rfl, if_pos rfl]
      · rw [if_neg h2, if_neg h2]
theorem pv_new {m : List (κ × α)} {k : κ} (v : α) (h : gv m k = none) : pv m k v = m ++ [(k, v)] := by
  induction m with
  | nil => rfl
  | cons p r ih =>
    have h0 : (if p.1 = k then some p.2 else gv r k) = none := h
    by_cases q : p.1 = k
    · rw [if_pos q] at h0; cases h0
    · rw [if_neg q] at h0
      show (if p.1 = k then (k, v) :: rv r k v else p :: pv r k v) = _
      rw [if_neg q, ih h0]; rfl
theorem pv_len (m : List (κ × α)) (k : κ) (v : α) : (pv m k v).length = if (gv m k).isSome = true then m.length else m.length + 1 := by
  induction m with
  | nil => rfl
  | cons p r ih =>
    show (if p.1 = k then (k, v) :: rv r k v else p :: pv r k v).length = if (if p.1 = k then some p.2 else gv r k).isSome = true then r.length + 1 else r.length + 2
    by_cases q : p.1 = k
    · rw [if_pos q, if_pos q, List.length_cons, rv_len]; rfl
    · rw [if_neg q, if_neg q, List.length_cons, ih]; split <;> rfl
theorem pv_len_le (m : List (κ × α)) (k : κ) (v : α) : (pv m k v).length ≤ m.length + 1 := by
  rw [pv_len]; split <;> omega
theorem pv_keys (m : List (κ × α)) (k : κ) (v : α) : (pv m k v).map (·.1) = if (gv m k).isSome = true then m.map (·.1) else m.map (·.1) ++ [k] := by
  induction m with
  | nil => rfl
  | cons p r ih =>
    show (if p.1 = k then (k, v) :: rv r k v else p :: pv r k v).map (·.1) = if (if p.1 = k then some p.2 else gv r k).isSome = true then p.1 :: r.map (·.1) else p.1 :: r.map (·.1) ++ [k]
    by_cases q : p.1 = k
    · rw [if_pos q, if_pos q, List.map_cons, rv_keys]
      show k :: _ = p.1 :: _
      rw [q]
    · rw [if_neg q, if_neg q, List.map_cons, ih]; split <;> rfl
theorem gv_mem {m : List (κ × α)} {k : κ} {v : α} (h : gv m k = some v) : (k, v) ∈ m := by
  induction m with
  | nil => cases h
  | cons p r ih =>
    have h0 : (if p.1 = k then some p.2 else gv r k) = some v := h
    by_cases q : p.1 = k
    · rw [if_pos q] at h0
      cases h0
      rw [← q]; exact List.mem_cons_self
    · rw [if_neg q] at h0
      exact List.mem_cons_of_mem _ (ih h0)
theorem gv_none {m : List (κ × α)} {k : κ} : gv m k = none ↔ k ∉ m.map (·.1) := by
  induction m with
  | nil => exact ⟨fun _ => List.not_mem_nil, fun _ => rfl⟩
  | cons p r ih =>
    show (if p.1 = k then some p.2 else gv r k) = none ↔ _
    rw [List.map_cons, List.mem_cons]
    by_cases q : p.1 = k
    · rw [if_pos q]
      exact ⟨(fun z => by cases z), (fun z => absurd (Or.inl q.symm) z)⟩
    · rw [if_neg q, ih]
      exact ⟨fun z y => y.elim (fun y => q y.symm) z, fun z y => z (.inr y)⟩
theorem gv_some {m : List (κ × α)} {k : κ} (h : k ∈ m.map (·.1)) : ∃ v, gv m k = some v := by
  cases q : gv m k with
  | none => exact absurd h (gv_none.mp q)
  | some v => exact ⟨v, rfl⟩
theorem hasK_iff {m : List (κ × α)} {k : κ} : hasK m k = true ↔ k ∈ m.map (·.1) := by
  unfold hasK
  cases q : gv m k with
  | none => exact ⟨(fun z => by cases z), (fun z => absurd z (gv_none.mp q))⟩
  | some v => exact ⟨fun _ => List.mem_map.mpr ⟨_, gv_mem q, rfl⟩, fun _ => rfl⟩
theorem gv_nd {m : List (κ × α)} (nd : (m.map (·.1)).Nodup) {k : κ} {v : α} (h : (k, v) ∈ m) : gv m k = some v := by
  induction m with
  | nil => cases h
  | cons p r ih =>
    rw [List.map_cons, List.nodup_cons] at nd
    show (if p.1 = k then some p.2 else gv r k) = some v
    rcases List.mem_cons.mp h with q | q
    · rw [← q, if_pos rfl]
    · have : p.1 ≠ k := fun z => nd.1 (z ▸ List.mem_map.mpr ⟨_, q, rfl⟩)
      rw [if_neg this]; exact ih nd.2 q
theorem pv_nd {m : List (κ × α)} (nd : (m.map (·.1)).Nodup) (k : κ) (v : α) : ((pv m k v).map (·.1)).Nodup := by
  rw [pv_keys]
  split
  · exact nd
  · rename_i h
    have hk : k ∉ m.map (·.1) := fun z => h (by have := hasK_iff.mpr z; exact this)
    rw [List.nodup_append]
    exact ⟨nd, List.pairwise_singleton _ _, fun a ha b hb => by rw [List.mem_singleton.mp hb]; exact fun z => hk (z ▸ ha)⟩
variable {κ' β : Type} [DecidableEq κ']
theorem gv_map {ky : κ → κ'} (hk : ∀ a b, ky a = ky b → a = b) (f : α → β) (m : List (κ × α)) (k : κ) : gv (m.map fun p => (ky p.1, f p.2)) (ky k) = (gv m k).map f := by
  induction m with
  | nil => rfl
  | cons p r ih =>
    show (if ky p.1 = ky k then some (f p.2) else gv (r.map fun p => (ky p.1, f p.2)) (ky k)) = (if p.1 = k then some p.2 else gv r k).map f
    by_cases q : p.1 = k
    · rw [if_pos q, if_pos (congrArg ky q)]; rfl
    · rw [if_neg q, if_neg (fun z => q (hk _ _ z)), ih]
theorem pv_map {ky : κ → κ'} (hk : ∀ a b, ky a = ky b → a = b) (f : α → β) (m : List (κ × α)) (k : κ) (v : α) : pv (m.map fun p => (ky p.1, f p.2)) (ky k) (f v) = (pv m k v).map fun p => (ky p.1, f p.2) := by
  induction m with
  | nil => rfl
  | cons p r ih =>
    show (if ky p.1 = ky k then (ky k, f v) :: rv (r.map fun p => (ky p.1, f p.2)) (ky k) (f v) else (ky p.1, f p.2) :: pv (r.map fun p => (ky p.1, f p.2)) (ky k) (f v)) = (if p.1 = k then (k, v) :: rv r k v else p :: pv r k v).map fun p => (ky p.1, f p.2)
    by_cases q : p.1 = k
    · rw [if_pos q, if_pos (congrArg ky q), List.map_cons]
      refine congrArg _ ?_
      unfold rv
      rw [List.map_map, List.map_map]
      refine List.map_congr_left fun a _ => ?_
      show (if ky a.1 = ky k then (ky a.1, f v) else (ky a.1, f a.2)) = (fun p : κ × α => (ky p.1, f p.2)) (if a.1 = k then (a.1, v) else a)
      by_cases h : a.1 = k
      · rw [if_pos h, if_pos (congrArg ky h)]
      · rw [if_neg h, if_neg (fun z => h (hk _ _ z))]
    · rw [if_neg q, if_neg (fun z => q (hk _ _ z)), ih]; rfl
end
/-! ### keys -/
abbrev kI : Int → Key := .inl
abbrev kS : Str → Key := .inr
abbrev kT1 {α : Type} (f : α → Key) (p : α) : List Key := [f p]
abbrev kT2 {α β : Type} (f : α → Key) (g : β → Key) (p : α × β) : List Key := [f p.1, g p.2]
abbrev kT3 {α β γ : Type} (f : α → Key) (g : β → Key) (h : γ → Key) (p : α × β × γ) : List Key := [f p.1, g p.2.1, h p.2.2]
abbrev kLT {α : Type} (f : α → Key) (xs : List α) : List Key := xs.map f
theorem kI_inj (a b : Int) (h : kI a = kI b) : a = b := Sum.inl.inj h
theorem kS_inj (a b : Str) (h : kS a = kS b) : a = b := Sum.inr.inj h
theorem kT2_inj {α β : Type} {f : α → Key} {g : β → Key} (hf : ∀ a b, f a = f b → a = b) (hg : ∀ a b, g a = g b → a = b) (p q : α × β) (h : kT2 f g p = kT2 f g q) : p = q := by
  obtain ⟨a, b⟩ := p
  obtain ⟨c, d⟩ := q
  have h1 : f a = f c ∧ g b = g d := by simpa [kT2] using h
  rw [hf _ _ h1.1, hg _ _ h1.2]
theorem kLT_inj {α : Type} {f : α → Key} (hf : ∀ a b, f a = f b → a = b) : ∀ (p q : List α), kLT f p = kLT f q → p = q
  | [], [], _ => rfl
  | [], _ :: _, h => by cases h
  | _ :: _, [], h => by cases h
  | a :: p, b :: q, h => by
    have h1 : f a = f b ∧ kLT f p = kLT f q := by simpa [kLT] using h
    rw [hf _ _ h1.1, kLT_inj hf p q h1.2]
/-- a dict as data -/
abbrev dD {κ α : Type} (ky : κ → Key) (f : α → PyData) (m : List (κ × α)) : PyData := .dict ((m.map fun p => (ky p.1, f p.2)).map fun p => (kD p.1, p.2))
abbrev dDT {κ α : Type} (kt : κ → List Key) (f : α → PyData) (m : List (κ × α)) : PyData := .dict ((m.map fun p => (kt p.1, f p.2)).map fun p => (kDs p.1, p.2))
/-- an own one -/
abbrev oD {κ α : Type} (ky : κ → Key) (f : α → PyData) (m : List (κ × α)) : Ct := .d (m.map fun p => (ky p.1, f p.2))
abbrev oT {κ α : Type} (kt : κ → List Key) (f : α → PyData) (m : List (κ × α)) : Ct := .t (m.map fun p => (kt p.1, f p.2))
section
variable {K : PySem.W.Frag} {F F' H : Hp} {v : V} {x : PyData}
theorem rp_key : ∀ {k : Key}, Rp K F v (kD k) → v = kV k
  | .inl i, r => rp_int r
  | .inr i, r => rp_str r
theorem key_rp : ∀ k : Key, Rp K F (kV k) (kD k)
  | .inl i => .int i
  | .inr i => .str i
theorem rpa_keys : ∀ {k : List Key} {vs : List V}, RpA K F vs (k.map kD) → vs = k.map kV
  | [], _, h => by cases h; rfl
  | k :: ks, _, h => by
    rw [List.map_cons] at h
    cases h with
    | cons a b => rw [rp_key a, rpa_keys b]; rfl
theorem keys_rpa : ∀ k : List Key, RpA K F (k.map kV) (k.map kD)
  | [] => .nil
  | k :: ks => .cons (key_rp k) (keys_rpa ks)
theorem rp_keys {k : List Key} (r : Rp K F v (kDs k)) : ∃ b, v = .ref b ∧ F b = some (.tup (k.map kV)) := by
  unfold kDs at r
  cases r with
  | tup h1 h2 => exact ⟨_, rfl, by rw [h1, rpa_keys h2]⟩
theorem kD_inj : ∀ {a b : Key}, kD a = kD b → a = b
  | .inl _, .inl _, h => by cases h; rfl
  | .inr _, .inr _, h => by cases h; rfl
  | .inl _, .inr _, h => by cases h
  | .inr _, .inl _, h => by cases h
theorem kDm_inj : ∀ {a b : List Key}, a.map kD = b.map kD → a = b
  | [], [], _ => rfl
  | [], _ :: _, h => by cases h
  | _ :: _, [], h => by cases h
  | x :: a, y :: b, h => by
    rw [List.map_cons, List.map_cons] at h
    obtain ⟨h1, h2⟩ := List.cons.inj h
    rw [kD_inj h1, kDm_inj h2]
theorem kDs_inj {a b : List Key} (h : kDs a = kDs b) : a = b := kDm_inj (PyData.tuple.inj h)
section
variable {κ : Type} [DecidableEq κ]
theorem KvA.cons_inv {p : κ × V} {r : List (κ × V)} {ds : List (κ × PyData)} (h : KvA K F (p :: r) ds) : ∃ d s, ds = (p.1, d) :: s ∧ Rp K F p.2 d ∧ KvA K F r s := by
  obtain ⟨h1, h2⟩ := h
  cases ds with
  | nil => cases h1
  | cons q s =>
    obtain ⟨e1, e2⟩ := List.cons.inj h1
    cases h2 with
    | cons a b => exact ⟨q.2, s, by rw [show p.1 = q.1 from e1], a, e2, b⟩
theorem KvA.nil_inv {ds : List (κ × PyData)} (h : KvA K F ([] : List (κ × V)) ds) : ds = [] := by
  obtain ⟨h1, h2⟩ := h
  cases ds with
  | nil => rfl
  | cons q s => cases h1
theorem KvA.cons {p : κ × V} {d : PyData} {r : List (κ × V)} {s : List (κ × PyData)} (h : Rp K F p.2 d) (t : KvA K F r s) : KvA K F (p :: r) ((p.1, d) :: s) := ⟨congrArg (p.1 :: ·) t.1, .cons h t.2⟩
theorem KvA.len {kvs : List (κ × V)} {ds : List (κ × PyData)} (h : KvA K F kvs ds) : kvs.length = ds.length := by
  have := h.2.length
  simpa using this
theorem KvA.gv : ∀ {kvs : List (κ × V)} {ds : List (κ × PyData)}, KvA K F kvs ds → ∀ k, (∀ x, G.gv ds k = some x → ∃ v, valV kvs k = some v ∧ Rp K F v x) ∧ (G.gv ds k = none → valV kvs k = none)
  | [], ds, h, k => by
    rw [h.nil_inv]
    exact ⟨fun _ z => (by cases z), fun _ => rfl⟩
  | p :: r, ds, h, k => by
    obtain ⟨d, s, rfl, h1, h2⟩ := h.cons_inv
    have ih := KvA.gv h2 k
    show (∀ x, (if p.1 = k then some d else G.gv s k) = some x → _) ∧ ((if p.1 = k then some d else G.gv s k) = none → _)
    by_cases q : p.1 = k
    · rw [if_pos q, valV_pos q]
      exact ⟨fun x z => by cases z; exact ⟨_, rfl, h1⟩, fun z => nomatch z⟩
    · rw [if_neg q, valV_neg q]; exact ih
theorem putK_cons {p : κ × V} {r : List (κ × V)} {k : κ} {v : V} : putK (p :: r) k v = if p.1 = k then (k, v) :: (r.map fun kv => if kv.1 = k then (kv.1, v) else kv) else p :: putK r k v := by
  unfold putK
  by_cases q : p.1 = k
  · rw [if_pos q, if_pos (by simp [q]), List.map_cons, if_pos q, q]
  · rw [if_neg q]
    simp only [List.any_cons, q, decide_false, Bool.false_or, List.map_cons, if_false]
    split <;> rfl
theorem KvA.rv : ∀ {kvs : List (κ × V)} {ds : List (κ × PyData)}, KvA K F kvs ds → ∀ (k : κ) {v : V} {x : PyData}, Rp K F v x → KvA K F (kvs.map fun kv => if kv.1 = k then (kv.1, v) else kv) (G.rv ds k x)
  | [], ds, h, k, v, x, r => by rw [h.nil_inv]; exact ⟨rfl, .nil⟩
  | p :: r, ds, h, k, v, x, rx => by
    obtain ⟨d, s, rfl, h1, h2⟩ := h.cons_inv
    show KvA K F ((if p.1 = k then (p.1, v) else p) :: _) ((if p.1 = k then (p.1, x) else (p.1, d)) :: G.rv s k x)
    by_cases q : p.1 = k
    · rw [if_pos q, if_pos q]
      exact KvA.cons (p := (p.1, v)) rx (KvA.rv h2 k rx)
    · rw [if_neg q, if_neg q]
      exact KvA.cons h1 (KvA.rv h2 k rx)
theorem KvA.pv : ∀ {kvs : List (κ × V)} {ds : List (κ × PyData)}, KvA K F kvs ds → ∀ (k : κ) {v : V} {x : PyData}, Rp K F v x → KvA K F (putK kvs k v) (G.pv ds k x)
  | [], ds, h, k, v, x, r => by
    rw [h.nil_inv]
    exact ⟨rfl, .cons r .nil⟩
  | p :: r, ds, h, k, v, x, rx => by
    obtain ⟨d, s, rfl, h1, h2⟩ := h.cons_inv
    rw [putK_cons]
    show KvA K F _ (if p.1 = k then (k, x) :: G.rv s k x else (p.1, d) :: G.pv s k x)
    by_cases q : p.1 = k
    · rw [if_pos q, if_pos q]
      exact KvA.cons (p := (k, v)) rx (h2.rv k rx)
    · rw [if_neg q, if_neg q]
      exact KvA.cons h1 (KvA.pv h2 k rx)
end
end
end G

/-! GDict2: dicts, the rules. -/
namespace G
open PySem PySem.Spec PyProof.Rows L2
section
variable {X : Cx} {W : WX} {e a b c tg iter elt : Expr} {es : List Expr} {p pos pos' : Pos} {ρ ρ' ρ1 ρ2 ρ3 : En} {x y z : PyData} {st : Stmt} {rest A B body : List Stmt} {D : DE} {i j : Int} {w o : Str} {p1 p2 p3 : Pos} {pa pb : Option Addr} {ds ds' : List (Key × PyData)} {ts ts' : List (List Key × PyData)} {k : Key} {kk : List Key} {ob : Option PyData}
/-! ### own dicts -/
theorem dget_own {K : PySem.W.Frag} {F H : Hp} {l : Addr} {v : V} {kvs : List (Key × V)} (h : H l = some (.dK kvs)) (q : KvA K F kvs ds) (r : Rp K F v (kD k)) : ∃ o, DGet H l v o ∧ (∀ x, gv ds k = some x → ∃ u, o = some u ∧ Rp K F u x) ∧ (gv ds k = none → o = none) := by
  have g := DGet.k (k := k) h
  refine ⟨valV kvs k, by rw [rp_key r]; exact g, (q.gv k).1, (q.gv k).2⟩
theorem dget_ownT {K : PySem.W.Frag} {F H : Hp} {l : Addr} {v : V} {kvs : List (List Key × V)} (e : Ex F H) (h : H l = some (.dT kvs)) (q : KvA K F kvs ts) (r : Rp K F v (kDs kk)) : ∃ o, DGet H l v o ∧ (∀ x, gv ts kk = some x → ∃ u, o = some u ∧ Rp K F u x) ∧ (gv ts kk = none → o = none) := by
  obtain ⟨b, rfl, hb⟩ := rp_keys r
  exact ⟨valV kvs kk, DGet.t h (e _ _ hb), (q.gv kk).1, (q.gv kk).2⟩
/-- what is known of the slot: an own dict -/
inductive DK : Ct → PyData → Option PyData → Prop
  | d {ds : List (Key × PyData)} {k : Key} : DK (.d ds) (kD k) (gv ds k)
  | t {ts : List (List Key × PyData)} {k : List Key} : DK (.t ts) (kDs k) (gv ts k)
theorem DK.get {K : PySem.W.Frag} {F H : Hp} {l : Addr} {v : V} {ct : Ct} {y : PyData} {ob : Option PyData} (dk : DK ct y ob) (e : Ex F H) (h : Own1 K F H l ct) (r : Rp K F v y) : ∃ o, DGet H l v o ∧ (∀ x, ob = some x → ∃ u, o = some u ∧ Rp K F u x) ∧ (ob = none → o = none) := by
  cases dk with
  | d => obtain ⟨kvs, h1, h2⟩ := h; exact dget_own h1 h2 r
  | t => obtain ⟨kvs, h1, h2⟩ := h; exact dget_ownT e h1 h2 r
theorem DK.isD {K : PySem.W.Frag} {F H : Hp} {l : Addr} {ct : Ct} {y : PyData} {ob : Option PyData} (dk : DK ct y ob) (h : Own1 K F H l ct) : IsD H l := by
  cases dk with
  | d => obtain ⟨kvs, h1, h2⟩ := h; exact .inl ⟨kvs, .inl h1⟩
  | t => obtain ⟨kvs, h1, h2⟩ := h; exact .inr ⟨kvs, .inl h1⟩
variable {ct ct' : Ct}
/-- d[k], d an own dict -/
theorem pd_dgetO (n : Nat) (hu : X.A.units + 65 < cLine) (h0 : ρ[n]? = some (.o pa ct)) (hb : PD X b ρ y ρ1) (h1 : ρ1[n]? = some (.o pb ct')) (dk : DK ct' y (some x))
    (hN : X.N[n]? = some o := by rfl) (hv : Vis X.env.scope o := by first | exact Or.inl rfl | exact Or.inr (Or.inl rfl) | exact Or.inr (Or.inr rfl)) (hd : (o == ("__debug__" : Str)) = false := by decide) (hcd : (o == ("__classdict__" : Str)) = false := by decide)
    (hs : NoSl b := by intro _ _; rfl) : PD X (.Subscript (.Name o p1) b pos) ρ x ρ1 :=
  PE_imp (pe_dget (by omega) (pe_var hN hv hd hcd) hb hs) fun σ H Q ⟨C, F, se, q⟩ => by
    obtain ⟨l, a1, _, _, _⟩ := se.getO h0
    refine ⟨.ref l, a1, C, F, se, fun v F1 H1 x1 e1 r1 => ?_⟩
    obtain ⟨l', b1, _, b2, _⟩ := e1.getO h1
    rw [a1] at b1
    cases b1
    obtain ⟨ov, g1, g2, _⟩ := dk.get e1.fr.ext b2 r1
    obtain ⟨u, rfl, g3⟩ := g2 x rfl
    exact ⟨l, u, rfl, g1, q u F1 H1 x1 e1 g3⟩
/-- d.get(k, z) -/
theorem pd_dget2O (n : Nat) (hu : X.A.units + 65 < cLine) (h0 : ρ[n]? = some (.o pa ct)) (ha : PD X a ρ y ρ1) (hb : PD X b ρ1 z ρ2) (h1 : ρ2[n]? = some (.o pb ct')) (dk : DK ct' y ob) (dk0 : DK ct y' ob')
    (hN : X.N[n]? = some o := by rfl) (hv : Vis X.env.scope o := by first | exact Or.inl rfl | exact Or.inr (Or.inl rfl) | exact Or.inr (Or.inr rfl)) (hd : (o == ("__debug__" : Str)) = false := by decide) (hcd : (o == ("__classdict__" : Str)) = false := by decide)
    (m : M2 X (.Name o p1) "get" p2 a b pos := by exact ⟨rfl, rfl, rfl, rfl⟩) : PD X (.Call (.Attribute (.Name o p1) "get" p2) [a, b] [] pos) ρ (ob.getD z) ρ2 :=
  PE_imp (pe_dget2 (by omega) (pe_var hN hv hd hcd) ha hb m) fun σ H Q ⟨C, F, se, q⟩ => by
    obtain ⟨l, a1, _, a2, _⟩ := se.getO h0
    refine ⟨.ref l, a1, l, rfl, dk0.isD a2, C, F, se, fun v F1 H1 x1 e1 r1 => ⟨C, F1, e1, fun u F2 H2 x2 e2 r2 => ?_⟩⟩
    obtain ⟨l', b1, _, b2, _⟩ := e2.getO h1
    rw [a1] at b1
    cases b1
    obtain ⟨ov, g1, g2, g3⟩ := dk.get e2.fr.ext b2 (r1.mono x2)
    refine ⟨ov, g1, ?_⟩
    cases ob with
    | none => rw [g3 rfl]; exact q u F2 H2 (x1.trans x2) e2 r2
    | some x =>
      obtain ⟨t, rfl, g4⟩ := g2 x rfl
      exact q t F2 H2 (x1.trans x2) e2 g4
theorem iss_of {K : PySem.W.Frag} {F : Hp} {ob : Option PyData} {ov : Option V} (g2 : ∀ x, ob = some x → ∃ u, ov = some u ∧ Rp K F u x) (g3 : ob = none → ov = none) : ov.isSome = ob.isSome := by
  cases ob with
  | none => rw [g3 rfl]; rfl
  | some x => obtain ⟨t, rfl, _⟩ := g2 x rfl; rfl
/-- k in d, k not in d -/
theorem pd_dinO (n : Nat) (hu : X.A.units + 65 < cLine) (ha : PD X a ρ y ρ1) (h1 : ρ1[n]? = some (.o pb ct)) (dk : DK ct y ob)
    (hN : X.N[n]? = some o := by rfl) (hv : Vis X.env.scope o := by first | exact Or.inl rfl | exact Or.inr (Or.inl rfl) | exact Or.inr (Or.inr rfl)) (hd : (o == ("__debug__" : Str)) = false := by decide) (hcd : (o == ("__classdict__" : Str)) = false := by decide)
    (hm : behindInMarks .In (.Name o p1) = false := by rfl) : PD X (.Compare a [.In] [.Name o p1] pos) ρ (.bool ob.isSome) ρ1 :=
  PE_imp (pe_cmp (pc_din (by omega) ha (pe_var hN hv hd hcd)) hm) fun σ H Q ⟨C, F, se, q⟩ => ⟨C, F, se, fun v F1 H1 x1 e1 r1 => by
    obtain ⟨l, b1, _, b2, _⟩ := e1.getO h1
    obtain ⟨ov, g1, g2, g3⟩ := dk.get e1.fr.ext b2 r1
    exact ⟨.ref l, b1, l, ov, rfl, g1, q _ F1 H1 x1 e1 (by rw [iss_of g2 g3]; exact .bl _)⟩⟩
theorem pd_dnotO (n : Nat) (hu : X.A.units + 65 < cLine) (ha : PD X a ρ y ρ1) (h1 : ρ1[n]? = some (.o pb ct)) (dk : DK ct y ob)
    (hN : X.N[n]? = some o := by rfl) (hv : Vis X.env.scope o := by first | exact Or.inl rfl | exact Or.inr (Or.inl rfl) | exact Or.inr (Or.inr rfl)) (hd : (o == ("__debug__" : Str)) = false := by decide) (hcd : (o == ("__classdict__" : Str)) = false := by decide)
    (hm : behindInMarks .NotIn (.Name o p1) = false := by rfl) : PD X (.Compare a [.NotIn] [.Name o p1] pos) ρ (.bool (!ob.isSome)) ρ1 :=
  PE_imp (pe_cmp (pc_dnotin (by omega) ha (pe_var hN hv hd hcd)) hm) fun σ H Q ⟨C, F, se, q⟩ => ⟨C, F, se, fun v F1 H1 x1 e1 r1 => by
    obtain ⟨l, b1, _, b2, _⟩ := e1.getO h1
    obtain ⟨ov, g1, g2, g3⟩ := dk.get e1.fr.ext b2 r1
    exact ⟨.ref l, b1, l, ov, rfl, g1, q _ F1 H1 x1 e1 (by rw [iss_of g2 g3]; exact .bl _)⟩⟩
/-- how it is behind d[k] = x -/
inductive DP : Ct → PyData → PyData → Ct → Prop
  | d {ds : List (Key × PyData)} {k : Key} {x : PyData} : ds.length < 100000 → DP (.d ds) (kD k) x (.d (pv ds k x))
  | t {ts : List (List Key × PyData)} {k : List Key} {x : PyData} : ts.length < 100000 → DP (.t ts) (kDs k) x (.t (pv ts k x))
theorem sd_dput (n : Nat) (hu : X.A.units + 65 < cLine) (he : PD X e ρ x ρ1) (h0 : ρ1[n]? = some (.o pa ct)) (hk : PD X b ρ1 y ρ2) (h1 : ρ2[n]? = some (.o pb ct')) (dp : DP ct' y x c2) (h : D.nx (ρ2.set n (.o pb c2)))
    (hN : X.N[n]? = some o := by rfl) (hv : Vis X.env.scope o := by first | exact Or.inl rfl | exact Or.inr (Or.inl rfl) | exact Or.inr (Or.inr rfl)) (hd : (o == ("__debug__" : Str)) = false := by decide) (hcd : (o == ("__classdict__" : Str)) = false := by decide)
    (hs : swapsWith e (some (.Subscript (.Name o p1) b p2)) pos.line X.env = pure false := by rfl) : SD X W (.Assign [.Subscript (.Name o p1) b p2] e pos) ρ D :=
  PS_imp (ps_dput (by omega) (pe_var hN hv hd hcd) hk he hs) fun E σ H ⟨C, F, se, cv⟩ => ⟨C, F, se, fun v F1 H1 x1 e1 r1 => by
    obtain ⟨l, a1, _, _, _⟩ := e1.getO h0
    refine ⟨.ref l, a1, C, F1, e1, fun u F2 H2 x2 e2 r2 => ?_⟩
    obtain ⟨l', b1, _, b2, _⟩ := e2.getO h1
    rw [a1] at b1
    cases b1
    cases dp with
    | d hl =>
      obtain ⟨kvs, b2, b3⟩ := b2
      exact ⟨l, _, rfl, by rw [rp_key r2]; exact DPut.k b2 (by rw [b3.len]; exact line_lt hl), cv.nx _ F2 _ _ h (e2.wr h1 a1 ⟨_, upd_same, b3.pv _ (r1.mono x2)⟩)⟩
    | t hl =>
      obtain ⟨kvs, b2, b3⟩ := b2
      obtain ⟨bb, rfl, hb⟩ := rp_keys r2
      exact ⟨l, _, rfl, DPut.t b2 (e2.fr.ext _ _ hb) (by rw [b3.len]; exact line_lt hl), cv.nx _ F2 _ _ h (e2.wr h1 a1 ⟨_, upd_same, b3.pv _ (r1.mono x2)⟩)⟩⟩
/-- an own dict becomes data, as it is read -/
theorem pd_thawD (n : Nat) (h0 : ρ[n]? = some (.o none (.d ds))) (hN : X.N[n]? = some w := by rfl) (hv : Vis X.env.scope w := by first | exact Or.inl rfl | exact Or.inr (Or.inl rfl) | exact Or.inr (Or.inr rfl)) (hd : (w == ("__debug__" : Str)) = false := by decide) (hcd : (w == ("__classdict__" : Str)) = false := by decide) :
    PD X (.Name w pos) ρ (.dict (ds.map fun p => (kD p.1, p.2))) (ρ.set n (.d (.dict (ds.map fun p => (kD p.1, p.2))))) :=
  PE_imp (pe_frz (pe_var hN hv hd hcd)) fun σ H Q ⟨C, F, se, q⟩ => by
    obtain ⟨l, a1, _, ⟨kvs, a3, a5⟩, a4⟩ := se.getO h0
    have fl := (se.own n l a4).1
    refine ⟨.ref l, a1, l, _, a3, trivial, fun od => ?_⟩
    have r : Rp X.K (L2.upd F l (.frz od (.dK kvs))) (.ref l) (.dict (ds.map fun p => (kD p.1, p.2))) := by rw [← keys_zip kD a5.1]; exact .dK upd_same (a5.2.mono (.new fl))
    exact q _ _ _ (.new fl) (se.thawF h0 a1 r) r
theorem pd_thawT (n : Nat) (h0 : ρ[n]? = some (.o none (.t ts))) (hN : X.N[n]? = some w := by rfl) (hv : Vis X.env.scope w := by first | exact Or.inl rfl | exact Or.inr (Or.inl rfl) | exact Or.inr (Or.inr rfl)) (hd : (w == ("__debug__" : Str)) = false := by decide) (hcd : (w == ("__classdict__" : Str)) = false := by decide) :
    PD X (.Name w pos) ρ (.dict (ts.map fun p => (kDs p.1, p.2))) (ρ.set n (.d (.dict (ts.map fun p => (kDs p.1, p.2))))) :=
  PE_imp (pe_frzT (pe_var hN hv hd hcd)) fun σ H Q ⟨C, F, se, q⟩ => by
    obtain ⟨l, a1, _, ⟨kvs, a3, a5⟩, a4⟩ := se.getO h0
    have fl := (se.own n l a4).1
    refine ⟨.ref l, a1, l, _, a3, fun od => ?_⟩
    have r : Rp X.K (L2.upd F l (frzOf od kvs)) (.ref l) (.dict (ts.map fun p => (kDs p.1, p.2))) := rp_frzT (a5.mono (.new fl)) upd_same
    exact q _ _ _ (.new fl) (se.thawF h0 a1 r) r
end
/-! ### dicts as data -/
section
variable {K : PySem.W.Frag} {F F' H : Hp} {v : V} {x : PyData}
theorem zip_inv {κ κ' : Type} {f : κ → PyData} {g : κ' → PyData} : ∀ {kvs : List κ} {vs : List PyData} {ds : List (κ' × PyData)}, kvs.length = vs.length → (kvs.map f).zip vs = ds.map (fun p => (g p.1, p.2)) → kvs.map f = ds.map (fun p => g p.1) ∧ vs = ds.map (·.2)
  | [], [], [], _, _ => ⟨rfl, rfl⟩
  | [], [], _ :: _, _, h => by cases h
  | _ :: _, [], _, l, _ => by cases l
  | [], _ :: _, _, l, _ => by cases l
  | _ :: _, _ :: _, [], _, h => by cases h
  | k :: kvs, v :: vs, d :: ds, l, h => by
    rw [List.map_cons, List.zip_cons_cons, List.map_cons] at h
    obtain ⟨h1, h2⟩ := List.cons.inj h
    obtain ⟨h3, h4⟩ := Prod.mk.inj h1
    obtain ⟨i1, i2⟩ := zip_inv (by simpa using l) h2
    exact ⟨by rw [List.map_cons, List.map_cons, i1, h3], by rw [List.map_cons, i2, h4]⟩
theorem mapk_inj {κ : Type} {f : κ → PyData} (hf : ∀ a b, f a = f b → a = b) {kvs : List (κ × V)} {ds : List (κ × PyData)} (h : (kvs.map fun p => f p.1) = ds.map fun p => f p.1) : kvs.map (·.1) = ds.map (·.1) := by
  induction kvs generalizing ds with
  | nil => cases ds with
    | nil => rfl
    | cons _ _ => cases h
  | cons p r ih => cases ds with
    | nil => cases h
    | cons q s =>
      rw [List.map_cons, List.map_cons] at h
      obtain ⟨h1, h2⟩ := List.cons.inj h
      rw [List.map_cons, List.map_cons, hf _ _ h1, ih h2]
theorem rp_dict {ds : List (Key × PyData)} (r : Rp K F v (.dict (ds.map fun p => (kD p.1, p.2)))) : ∃ a o kvs, v = .ref a ∧ F a = some (.frz o (.dK kvs)) ∧ KvA K F kvs ds := by
  generalize hd : PyData.dict (ds.map fun p => (kD p.1, p.2)) = d at r
  cases r with
  | @dK a o kvs vs h1 h2 =>
    have e := (PyData.dict.inj hd).symm
    have l := h2.length
    rw [List.length_map] at l
    have e2 := zip_inv (f := fun p : Key × V => kD p.1) l e
    exact ⟨a, o, kvs, rfl, h1, mapk_inj (fun _ _ z => kD_inj z) e2.1, by rw [← e2.2]; exact h2⟩
  | @dT a o kvs vs h1 hn h2 =>
    have e := (PyData.dict.inj hd).symm
    have l := h2.length
    rw [List.length_map] at l
    have e2 := zip_inv (f := fun p : List Key × V => kDs p.1) l e
    cases kvs with
    | nil => exact absurd rfl hn
    | cons q r =>
      cases ds with
      | nil => cases e2.1
      | cons d ds =>
        have h3 := (List.cons.inj e2.1).1
        obtain ⟨k, _⟩ := d
        cases k <;> cases h3
  | _ => cases hd
theorem rp_dictT {ts : List (List Key × PyData)} (r : Rp K F v (.dict (ts.map fun p => (kDs p.1, p.2)))) : ∃ a o, v = .ref a ∧ ((∃ kvs, F a = some (.frz o (.dT kvs)) ∧ KvA K F kvs ts) ∨ (F a = some (.frz o (.dK [])) ∧ ts = [])) := by
  generalize hd : PyData.dict (ts.map fun p => (kDs p.1, p.2)) = d at r
  cases r with
  | @dT a o kvs vs h1 hn h2 =>
    have e := (PyData.dict.inj hd).symm
    have l := h2.length
    rw [List.length_map] at l
    have e2 := zip_inv (f := fun p : List Key × V => kDs p.1) l e
    exact ⟨a, o, rfl, .inl ⟨kvs, h1, mapk_inj (fun _ _ z => kDs_inj z) e2.1, by rw [← e2.2]; exact h2⟩⟩
  | @dK a o kvs vs h1 h2 =>
    have e := (PyData.dict.inj hd).symm
    have l := h2.length
    rw [List.length_map] at l
    have e2 := zip_inv (f := fun p : Key × V => kD p.1) l e
    cases ts with
    | nil =>
      cases kvs with
      | nil => exact ⟨a, o, rfl, .inr ⟨h1, rfl⟩⟩
      | cons _ _ => cases e2.1
    | cons d ds =>
      cases kvs with
      | nil => cases e2.1
      | cons q r =>
        have h3 := (List.cons.inj e2.1).1
        obtain ⟨k, _⟩ := q
        cases k <;> cases h3
  | _ => cases hd
theorem KvA.get {κ : Type} {kvs : List (κ × V)} {ds : List (κ × PyData)} (h : KvA K F kvs ds) {n : Nat} {k : κ} {v : V} (e : kvs[n]? = some (k, v)) : ∃ d, ds[n]? = some (k, d) ∧ Rp K F v d := by
  have h1 : (kvs.map (·.1))[n]? = some k := by rw [List.getElem?_map, e]; rfl
  have h2 : (kvs.map (·.2))[n]? = some v := by rw [List.getElem?_map, e]; rfl
  obtain ⟨d, h3, h4⟩ := h.2.getV h2
  rw [h.1, List.getElem?_map] at h1
  rw [List.getElem?_map] at h3
  cases q : ds[n]? with
  | none => rw [q] at h1; cases h1
  | some p =>
    rw [q] at h1 h3
    cases h1
    cases h3
    exact ⟨p.2, rfl, h4⟩
end
section
variable {X : Cx} {W : WX} {e a b c tg iter elt : Expr} {es : List Expr} {p pos pos' : Pos} {ρ ρ' ρ1 ρ2 ρ3 : En} {x y z : PyData} {ds : List (Key × PyData)} {ts : List (List Key × PyData)} {k : Key} {kk : List Key} {ob : Option PyData}
/-- what is known of a dict that is data (with tuples as keys: it is not empty) -/
inductive DF : PyData → PyData → Option PyData → Prop
  | d {ds : List (Key × PyData)} {k : Key} : DF (.dict (ds.map fun p => (kD p.1, p.2))) (kD k) (gv ds k)
  | t {ts : List (List Key × PyData)} {k : List Key} : ts ≠ [] → DF (.dict (ts.map fun p => (kDs p.1, p.2))) (kDs k) (gv ts k)
theorem DF.get {K : PySem.W.Frag} {F H : Hp} {u v : V} {d : PyData} {y : PyData} {ob : Option PyData} (df : DF d y ob) (e : Ex F H) (h : Rp K F u d) (r : Rp K F v y) : ∃ l o, u = .ref l ∧ DGet H l v o ∧ (∀ x, ob = some x → ∃ u, o = some u ∧ Rp K F u x) ∧ (ob = none → o = none) := by
  cases df with
  | @d ds k =>
    obtain ⟨l, o, kvs, rfl, h1, h2⟩ := rp_dict h
    exact ⟨l, valV kvs k, rfl, by rw [rp_key r]; exact .inl ⟨kvs, k, .inr ⟨o, e _ _ h1⟩, rfl, rfl⟩, (h2.gv k).1, (h2.gv k).2⟩
  | @t ts k hn =>
    obtain ⟨b, rfl, hb⟩ := rp_keys r
    obtain ⟨l, o, rfl, ⟨kvs, h1, h2⟩ | ⟨_, z⟩⟩ := rp_dictT h
    · exact ⟨l, valV kvs k, rfl, .inr ⟨kvs, k, b, .inr ⟨o, e _ _ h1⟩, rfl, e _ _ hb, rfl⟩, (h2.gv k).1, (h2.gv k).2⟩
    · exact absurd z hn
variable {d : PyData}
theorem pd_dgetD (hu : X.A.units + 65 < cLine) (ha : PD X a ρ d ρ1) (hb : PD X b ρ1 y ρ2) (df : DF d y (some x)) (hs : NoSl b := by intro _ _; rfl) : PD X (.Subscript a b pos) ρ x ρ2 :=
  PE_imp (pe_dget (by omega) ha hb hs) fun σ H Q ⟨C, F, se, q⟩ => ⟨C, F, se, fun u F1 H1 x1 e1 r1 => ⟨C, F1, e1, fun v F2 H2 x2 e2 r2 => by
    obtain ⟨l, ov, rfl, g1, g2, _⟩ := df.get e2.fr.ext (r1.mono x2) r2
    obtain ⟨t, rfl, g3⟩ := g2 x rfl
    exact ⟨l, t, rfl, g1, q t F2 H2 (x1.trans x2) e2 g3⟩⟩⟩
theorem pd_dinD (hu : X.A.units + 65 < cLine) (ha : PD X a ρ y ρ1) (hb : PD X b ρ1 d ρ2) (df : DF d y ob) (hm : behindInMarks .In b = false := by rfl) : PD X (.Compare a [.In] [b] pos) ρ (.bool ob.isSome) ρ2 :=
  PE_imp (pe_cmp (pc_din (by omega) ha hb) hm) fun σ H Q ⟨C, F, se, q⟩ => ⟨C, F, se, fun v F1 H1 x1 e1 r1 => ⟨C, F1, e1, fun u F2 H2 x2 e2 r2 => by
    obtain ⟨l, ov, rfl, g1, g2, g3⟩ := df.get e2.fr.ext r2 (r1.mono x2)
    exact ⟨l, ov, rfl, g1, q _ F2 H2 (x1.trans x2) e2 (by rw [iss_of g2 g3]; exact .bl _)⟩⟩⟩
theorem pd_dnotD (hu : X.A.units + 65 < cLine) (ha : PD X a ρ y ρ1) (hb : PD X b ρ1 d ρ2) (df : DF d y ob) (hm : behindInMarks .NotIn b = false := by rfl) : PD X (.Compare a [.NotIn] [b] pos) ρ (.bool (!ob.isSome)) ρ2 :=
  PE_imp (pe_cmp (pc_dnotin (by omega) ha hb) hm) fun σ H Q ⟨C, F, se, q⟩ => ⟨C, F, se, fun v F1 H1 x1 e1 r1 => ⟨C, F1, e1, fun u F2 H2 x2 e2 r2 => by
    obtain ⟨l, ov, rfl, g1, g2, g3⟩ := df.get e2.fr.ext r2 (r1.mono x2)
    exact ⟨l, ov, rfl, g1, q _ F2 H2 (x1.trans x2) e2 (by rw [iss_of g2 g3]; exact .bl _)⟩⟩⟩
/-- for k in d -/
theorem id_dkeys (h : PD X e ρ (.dict (ds.map fun p => (kD p.1, p.2))) ρ') : ID X tg e ρ (ds.map fun p => kD p.1) (fun _ => True) none ρ' := PI_imp (pi_keys h) fun σ H R ⟨C, F, se, q⟩ => ⟨C, F, se, fun v F1 H1 x1 e1 r1 => by
  obtain ⟨a, o, kvs, rfl, h1, h2⟩ := rp_dict r1
  have hl := h2.len
  refine ⟨a, o, rfl, .inl ⟨kvs, e1.fr.ext _ _ h1, q _ F1 H1 x1 e1 ⟨fun i C F2 H2 σ2 ρ2 x2 e2 ok2 hs hi => ?_, fun C F2 H2 σ2 ρ2 x2 e2 ok2 hs => ?_, fun i C F2 H2 σ2 ρ2 v H3 x2 e2 ok2 hs hi y => ?_⟩⟩⟩
  · exact walk_keys.goes i H2 (by rw [List.length_map] at hi; omega) (e2.fr.ext _ _ (x2 _ _ h1))
  · rw [List.length_map, ← hl]; exact walk_keys.stops H2 (e2.fr.ext _ _ (x2 _ _ h1))
  · obtain ⟨rfl, k, v0, h3, rfl⟩ := walk_keys.yields i H2 v H3 (by rw [List.length_map] at hi; omega) (e2.fr.ext _ _ (x2 _ _ h1)) y
    obtain ⟨d, h4, h5⟩ := h2.get h3
    exact ⟨kD k, F2, by rw [List.getElem?_map, h4]; rfl, .refl _, e2, key_rp k⟩⟩
theorem id_dkeysT (h : PD X e ρ (.dict (ts.map fun p => (kDs p.1, p.2))) ρ') : ID X tg e ρ (ts.map fun p => kDs p.1) (fun _ => True) none ρ' := PI_imp (pi_keys h) fun σ H R ⟨C, F, se, q⟩ => ⟨C, F, se, fun v F1 H1 x1 e1 r1 => by
  obtain ⟨a, o, rfl, ⟨kvs, h1, h2⟩ | ⟨h1, rfl⟩⟩ := rp_dictT r1
  · have hl := h2.len
    refine ⟨a, o, rfl, .inr ⟨kvs, e1.fr.ext _ _ h1, q _ F1 H1 x1 e1 ⟨fun i C F2 H2 σ2 ρ2 x2 e2 ok2 hs hi => ?_, fun C F2 H2 σ2 ρ2 x2 e2 ok2 hs => ?_, fun i C F2 H2 σ2 ρ2 v H3 x2 e2 ok2 hs hi y => ?_⟩⟩⟩
    · exact walk_keysT.goes i H2 (by rw [List.length_map] at hi; omega) (e2.fr.ext _ _ (x2 _ _ h1))
    · rw [List.length_map, ← hl]; exact walk_keysT.stops H2 (e2.fr.ext _ _ (x2 _ _ h1))
    · obtain ⟨rfl, k, v0, b, h3, rfl, hb⟩ := walk_keysT.yields i H2 v H3 (by rw [List.length_map] at hi; omega) (e2.fr.ext _ _ (x2 _ _ h1)) y
      obtain ⟨d, h4, h5⟩ := h2.get h3
      have h6 : (ts.map fun p => kDs p.1)[i]? = some (kDs k) := by rw [List.getElem?_map, h4]; rfl
      cases hF : F2 b with
      | none => exact ⟨kDs k, _, h6, .new hF, e2.frzT hb hF, .tup upd_same (keys_rpa k)⟩
      | some u =>
        have hu := e2.fr.ext _ _ hF
        rw [hb] at hu
        cases hu
        exact ⟨kDs k, F2, h6, .refl _, e2, .tup hF (keys_rpa k)⟩
  · refine ⟨a, o, rfl, .inl ⟨[], e1.fr.ext _ _ h1, q _ F1 H1 x1 e1 ⟨fun i C F2 H2 σ2 ρ2 x2 e2 ok2 hs hi => ?_, fun C F2 H2 σ2 ρ2 x2 e2 ok2 hs => ?_, fun i C F2 H2 σ2 ρ2 v H3 x2 e2 ok2 hs hi y => ?_⟩⟩⟩
    · cases hi
    · exact walk_keys.stops H2 (e2.fr.ext _ _ (x2 _ _ h1))
    · cases hi⟩
end
end G

/-! GSort: data of one kind: ==, in, index, count, sorted; parts of tuples. -/
namespace G
open PySem PySem.Spec PyProof.Rows L2
/-! ### == of data of one kind -/
structure EqD {α : Type} [DecidableEq α] (n : Nat) (f : α → PyData) : Prop where
  lay : ∀ a, PyData.canLay0 (f a) = true ∧ PyData.depth (f a) ≤ n
  eqv : ∀ a b, PyData.eqv (f a) (f b) = decide (a = b)
section
variable {α β γ : Type} [DecidableEq α] [DecidableEq β] [DecidableEq γ] {f : α → PyData} {g : β → PyData} {h : γ → PyData} {m n k : Nat}
theorem eqd_int : EqD 1 PyData.int := ⟨lay_int, fun a b => by show (a == b) = _; rw [Bool.beq_eq_decide_eq]⟩
theorem eqd_bl : EqD 1 PyData.bool := ⟨fun _ => ⟨rfl, by simp [PyData.depth]⟩, fun a b => by show (a == b) = _; rw [Bool.beq_eq_decide_eq]⟩
theorem EqD.le (e : EqD m f) (h : m ≤ n) : EqD n f := ⟨fun a => ⟨(e.lay a).1, Nat.le_trans (e.lay a).2 h⟩, e.eqv⟩
theorem eqd_T2 (e : EqD m f) (e2 : EqD m g) : EqD (m + 1) (dT2 f g) := ⟨fun a => by
    have h1 := e.lay a.1
    have h2 := e2.lay a.2
    refine ⟨?_, ?_⟩
    · show (PyData.canLay0 (f a.1) && (PyData.canLay0 (g a.2) && true)) = true
      rw [h1.1, h2.1]; rfl
    · simp only [dT2, PyData.depth, PyData.depthAll]; omega, fun a b => by
    show (PyData.eqv (f a.1) (f b.1) && (PyData.eqv (g a.2) (g b.2) && true)) = _
    rw [e.eqv, e2.eqv, Bool.eq_iff_iff]
    simp [Prod.ext_iff]⟩
theorem eqd_T3 (e : EqD m f) (e2 : EqD m g) (e3 : EqD m h) : EqD (m + 1) (dT3 f g h) := ⟨fun a => by
    have h1 := e.lay a.1
    have h2 := e2.lay a.2.1
    have h3 := e3.lay a.2.2
    refine ⟨?_, ?_⟩
    · show (PyData.canLay0 (f a.1) && (PyData.canLay0 (g a.2.1) && (PyData.canLay0 (h a.2.2) && true))) = true
      rw [h1.1, h2.1, h3.1]; rfl
    · simp only [dT3, PyData.depth, PyData.depthAll]; omega, fun a b => by
    show (PyData.eqv (f a.1) (f b.1) && (PyData.eqv (g a.2.1) (g b.2.1) && (PyData.eqv (h a.2.2) (h b.2.2) && true))) = _
    rw [e.eqv, e2.eqv, e3.eqv, Bool.eq_iff_iff]
    simp [Prod.ext_iff]⟩
theorem eqvAll_map (e : EqD m f) : ∀ xs ys : List α, PyData.eqvAll (xs.map f) (ys.map f) = decide (xs = ys)
  | [], [] => rfl
  | [], _ :: _ => rfl
  | _ :: _, [] => rfl
  | x :: xs, y :: ys => by
    show (PyData.eqv (f x) (f y) && PyData.eqvAll (xs.map f) (ys.map f)) = _
    rw [e.eqv, eqvAll_map e xs ys, Bool.eq_iff_iff]
    simp
theorem eqd_L (e : EqD m f) : EqD (m + 1) (dL f) := ⟨fun xs => by
    have l := lay_map e.lay xs
    exact ⟨l.1, by simp only [dL, PyData.depth]; omega⟩, fun xs ys => eqvAll_map e xs ys⟩
theorem EqD.flat (e : EqD m f) (hm : m ≤ 60) (a : α) : flat (f a) = true := by
  have l := e.lay a
  show (PyData.canLay0 (f a) && decide (PyData.depth (f a) ≤ 64)) = true
  rw [l.1, Bool.true_and, decide_eq_true_eq]
  omega
theorem any_in (e : EqD m f) (v : α) (ns : List α) : ((ns.map f).any fun z => PyData.eqv z (f v)) = decide (v ∈ ns) := by
  rw [List.any_map]
  show (ns.any fun z => PyData.eqv (f z) (f v)) = _
  rw [Bool.eq_iff_iff, List.any_eq_true, decide_eq_true_eq]
  constructor
  · rintro ⟨z, hz, q⟩
    rw [e.eqv, decide_eq_true_eq] at q
    exact q ▸ hz
  · intro hz
    exact ⟨v, hz, by rw [e.eqv]; exact decide_eq_true rfl⟩
end
section
variable {X : Cx} {W : WX} {e a b c tg iter elt o : Expr} {es : List Expr} {p pos pos' p1 p2 : Pos} {ρ ρ' ρ1 ρ2 ρ3 : En} {x y z : PyData} {xs ys : List PyData} {i j : Int} {α β γ : Type} [DecidableEq α] {f : α → PyData} {ns ms : List α} {m : Nat} {u v : α}
theorem td_eqT0 (hu : X.A.units + 65 < cLine) (q : EqD m f) (hm : m ≤ 60) (ha : PD X a ρ (f u) ρ1) (hb : PD X b ρ1 (f v) ρ2) : TD X (.Compare a [.Eq] [b] pos) ρ (decide (u = v)) ρ2 := td_cast (q.eqv u v) (td_eq (by omega) (q.flat hm u) (q.flat hm v) ha hb)
theorem td_neT0 (hu : X.A.units + 65 < cLine) (q : EqD m f) (hm : m ≤ 60) (ha : PD X a ρ (f u) ρ1) (hb : PD X b ρ1 (f v) ρ2) : TD X (.Compare a [.NotEq] [b] pos) ρ (!decide (u = v)) ρ2 := td_cast (by rw [q.eqv u v]) (td_ne (by omega) (q.flat hm u) (q.flat hm v) ha hb)
theorem pd_eqT0 (hu : X.A.units + 65 < cLine) (q : EqD m f) (hm : m ≤ 60) (ha : PD X a ρ (f u) ρ1) (hb : PD X b ρ1 (f v) ρ2) : PD X (.Compare a [.Eq] [b] pos) ρ (.bool (decide (u = v))) ρ2 := pd_cast (congrArg PyData.bool (q.eqv u v)) (pd_eq (by omega) (q.flat hm u) (q.flat hm v) ha hb)
theorem pd_neT0 (hu : X.A.units + 65 < cLine) (q : EqD m f) (hm : m ≤ 60) (ha : PD X a ρ (f u) ρ1) (hb : PD X b ρ1 (f v) ρ2) : PD X (.Compare a [.NotEq] [b] pos) ρ (.bool (!decide (u = v))) ρ2 := pd_cast (by rw [q.eqv u v]) (pd_ne (by omega) (q.flat hm u) (q.flat hm v) ha hb)
theorem dp_lst {K : PySem.W.Frag} {F H : Hp} {l : Addr} {vs : List V} (ex : Ex F H) (s : SqL K H l vs) (r : RpA K F vs (ns.map f)) (q : EqD m f) (hm : m ≤ 60) : Dp K H (.ref l) (.list (ns.map f)) ∧ flat (.list (ns.map f)) = true :=
  ⟨.lst s (dpa_mono ex _ (RpA.dp _ r (lay_map q.lay ns).1)), flat_map q.lay hm ns⟩
theorem pd_inT0 {src : Option Nat} (hu : X.A.units + 65 < cLine) (q : EqD m f) (hm : m ≤ 60) (ha : PD X a ρ (f v) ρ1) (hb : PQ X b ρ1 src (ns.map f) ρ2) (ok : SrcOk ρ2 src (ns.map f)) (hbm : behindInMarks .In b = false := by rfl) : PD X (.Compare a [.In] [b] pos) ρ (.bool (decide (v ∈ ns))) ρ2 :=
  PE_imp (pe_cmpR (op_inD hu) ha hb hbm) fun σ H Q ⟨C, F, se, k⟩ => ⟨C, F, se, fun v0 F1 H1 x1 e1 r1 => ⟨C, F1, e1, fun w F2 H2 x2 e2 r2 => by
    obtain ⟨l, vs, rfl, s, rr⟩ := r2.look e2 ok
    obtain ⟨d1, d2⟩ := dp_lst e2.fr.ext s rr q hm
    exact ⟨f v, _, dp_mono (x2.trans e2.fr.ext) _ (Rp.dp _ r1 (q.lay v).1), d1, q.flat hm v, d2, k _ F2 H2 (x1.trans x2) e2 (by rw [any_in q]; exact .bl _)⟩⟩⟩
theorem pd_notinT0 {src : Option Nat} (hu : X.A.units + 65 < cLine) (q : EqD m f) (hm : m ≤ 60) (ha : PD X a ρ (f v) ρ1) (hb : PQ X b ρ1 src (ns.map f) ρ2) (ok : SrcOk ρ2 src (ns.map f)) (hbm : behindInMarks .NotIn b = false := by rfl) : PD X (.Compare a [.NotIn] [b] pos) ρ (.bool (!decide (v ∈ ns))) ρ2 :=
  PE_imp (pe_cmpR (op_notInD hu) ha hb hbm) fun σ H Q ⟨C, F, se, k⟩ => ⟨C, F, se, fun v0 F1 H1 x1 e1 r1 => ⟨C, F1, e1, fun w F2 H2 x2 e2 r2 => by
    obtain ⟨l, vs, rfl, s, rr⟩ := r2.look e2 ok
    obtain ⟨d1, d2⟩ := dp_lst e2.fr.ext s rr q hm
    exact ⟨f v, _, dp_mono (x2.trans e2.fr.ext) _ (Rp.dp _ r1 (q.lay v).1), d1, q.flat hm v, d2, k _ F2 H2 (x1.trans x2) e2 (by rw [any_in q]; exact .bl _)⟩⟩⟩
theorem td_inT0 {src : Option Nat} (hu : X.A.units + 65 < cLine) (q : EqD m f) (hm : m ≤ 60) (ha : PD X a ρ (f v) ρ1) (hb : PQ X b ρ1 src (ns.map f) ρ2) (ok : SrcOk ρ2 src (ns.map f)) (hbm : behindInMarks .In b = false := by rfl) : TD X (.Compare a [.In] [b] pos) ρ (decide (v ∈ ns)) ρ2 :=
  PT_imp (pt_cmpR (op_inD hu) ha hb hbm) fun σ H Q ⟨C, F, se, k⟩ => ⟨C, F, se, fun v0 F1 H1 x1 e1 r1 => ⟨C, F1, e1, fun w F2 H2 x2 e2 r2 => by
    obtain ⟨l, vs, rfl, s, rr⟩ := r2.look e2 ok
    obtain ⟨d1, d2⟩ := dp_lst e2.fr.ext s rr q hm
    exact ⟨f v, _, dp_mono (x2.trans e2.fr.ext) _ (Rp.dp _ r1 (q.lay v).1), d1, q.flat hm v, d2, _, rfl, by rw [any_in q]; exact k F2 H2 (x1.trans x2) e2⟩⟩⟩
theorem td_notinT0 {src : Option Nat} (hu : X.A.units + 65 < cLine) (q : EqD m f) (hm : m ≤ 60) (ha : PD X a ρ (f v) ρ1) (hb : PQ X b ρ1 src (ns.map f) ρ2) (ok : SrcOk ρ2 src (ns.map f)) (hbm : behindInMarks .NotIn b = false := by rfl) : TD X (.Compare a [.NotIn] [b] pos) ρ (!decide (v ∈ ns)) ρ2 :=
  PT_imp (pt_cmpR (op_notInD hu) ha hb hbm) fun σ H Q ⟨C, F, se, k⟩ => ⟨C, F, se, fun v0 F1 H1 x1 e1 r1 => ⟨C, F1, e1, fun w F2 H2 x2 e2 r2 => by
    obtain ⟨l, vs, rfl, s, rr⟩ := r2.look e2 ok
    obtain ⟨d1, d2⟩ := dp_lst e2.fr.ext s rr q hm
    exact ⟨f v, _, dp_mono (x2.trans e2.fr.ext) _ (Rp.dp _ r1 (q.lay v).1), d1, q.flat hm v, d2, _, rfl, by rw [any_in q]; exact k F2 H2 (x1.trans x2) e2⟩⟩⟩
theorem dec_any {p : Prop} (d d' : Decidable p) : @decide p d = @decide p d' := by rw [Subsingleton.elim d d']
theorem td_inT {src : Option Nat} {dec : Decidable (v ∈ ns)} (hu : X.A.units + 65 < cLine) (q : EqD m f) (hm : m ≤ 60) (ha : PD X a ρ (f v) ρ1) (hb : PQ X b ρ1 src (ns.map f) ρ2) (ok : SrcOk ρ2 src (ns.map f)) (hbm : behindInMarks .In b = false := by rfl) : TD X (.Compare a [.In] [b] pos) ρ (@decide (v ∈ ns) dec) ρ2 := td_cast (dec_any _ _) (td_inT0 hu q hm ha hb ok hbm)
theorem td_notinT {src : Option Nat} {dec : Decidable (v ∈ ns)} (hu : X.A.units + 65 < cLine) (q : EqD m f) (hm : m ≤ 60) (ha : PD X a ρ (f v) ρ1) (hb : PQ X b ρ1 src (ns.map f) ρ2) (ok : SrcOk ρ2 src (ns.map f)) (hbm : behindInMarks .NotIn b = false := by rfl) : TD X (.Compare a [.NotIn] [b] pos) ρ (!@decide (v ∈ ns) dec) ρ2 := td_cast (congrArg _ (dec_any _ _)) (td_notinT0 hu q hm ha hb ok hbm)
theorem pd_inT {src : Option Nat} {dec : Decidable (v ∈ ns)} (hu : X.A.units + 65 < cLine) (q : EqD m f) (hm : m ≤ 60) (ha : PD X a ρ (f v) ρ1) (hb : PQ X b ρ1 src (ns.map f) ρ2) (ok : SrcOk ρ2 src (ns.map f)) (hbm : behindInMarks .In b = false := by rfl) : PD X (.Compare a [.In] [b] pos) ρ (.bool (@decide (v ∈ ns) dec)) ρ2 := pd_cast (congrArg PyData.bool (dec_any _ _)) (pd_inT0 hu q hm ha hb ok hbm)
theorem pd_notinT {src : Option Nat} {dec : Decidable (v ∈ ns)} (hu : X.A.units + 65 < cLine) (q : EqD m f) (hm : m ≤ 60) (ha : PD X a ρ (f v) ρ1) (hb : PQ X b ρ1 src (ns.map f) ρ2) (ok : SrcOk ρ2 src (ns.map f)) (hbm : behindInMarks .NotIn b = false := by rfl) : PD X (.Compare a [.NotIn] [b] pos) ρ (.bool (!@decide (v ∈ ns) dec)) ρ2 := pd_cast (congrArg (fun z => PyData.bool (!z)) (dec_any _ _)) (pd_notinT0 hu q hm ha hb ok hbm)
theorem td_eqT {dec : Decidable (u = v)} (hu : X.A.units + 65 < cLine) (q : EqD m f) (hm : m ≤ 60) (ha : PD X a ρ (f u) ρ1) (hb : PD X b ρ1 (f v) ρ2) : TD X (.Compare a [.Eq] [b] pos) ρ (@decide (u = v) dec) ρ2 := td_cast (dec_any _ _) (td_eqT0 hu q hm ha hb)
theorem td_neT {dec : Decidable (u = v)} (hu : X.A.units + 65 < cLine) (q : EqD m f) (hm : m ≤ 60) (ha : PD X a ρ (f u) ρ1) (hb : PD X b ρ1 (f v) ρ2) : TD X (.Compare a [.NotEq] [b] pos) ρ (!@decide (u = v) dec) ρ2 := td_cast (congrArg _ (dec_any _ _)) (td_neT0 hu q hm ha hb)
theorem pd_eqT {dec : Decidable (u = v)} (hu : X.A.units + 65 < cLine) (q : EqD m f) (hm : m ≤ 60) (ha : PD X a ρ (f u) ρ1) (hb : PD X b ρ1 (f v) ρ2) : PD X (.Compare a [.Eq] [b] pos) ρ (.bool (@decide (u = v) dec)) ρ2 := pd_cast (congrArg PyData.bool (dec_any _ _)) (pd_eqT0 hu q hm ha hb)
theorem pd_neT {dec : Decidable (u = v)} (hu : X.A.units + 65 < cLine) (q : EqD m f) (hm : m ≤ 60) (ha : PD X a ρ (f u) ρ1) (hb : PD X b ρ1 (f v) ρ2) : PD X (.Compare a [.NotEq] [b] pos) ρ (.bool (!@decide (u = v) dec)) ρ2 := pd_cast (congrArg (fun z => PyData.bool (!z)) (dec_any _ _)) (pd_neT0 hu q hm ha hb)
/-! ### a tuple's part -/
theorem cutV_whole {α : Type} (xs : List α) {lo hi : Option Int} (h : HT.sIx xs.length 0 lo = 0 ∧ HT.sIx xs.length xs.length hi = xs.length) : (xs.drop (HT.sIx xs.length 0 lo)).take (HT.sIx xs.length xs.length hi - HT.sIx xs.length 0 lo) = xs := by
  rw [h.1, h.2]; simp
theorem pd_sliceT {lo hi : Option Expr} {ol oh : Option Int} (h : PD X e ρ (.tuple xs) ρ1) (hl : OD X lo ρ1 ol ρ2) (hh : OD X hi ρ2 oh ρ3) : PD X (.Subscript e (.Slice lo hi none p2) pos) ρ (.tuple (cutD xs ol oh)) ρ3 :=
  PE_imp (pe_slice sl_tupA h hl hh) fun σ H Q ⟨C, F, se, q⟩ => ⟨C, F, se, fun v F1 H1 x1 e1 r1 => ⟨C, F1, e1, fun F2 H2 x2 e2 => ⟨C, F2, e2, fun F3 H3 x3 e3 => by
    cases r1 with
    | @tup l vs _ h1 h2 =>
      have hF := x3 _ _ (x2 _ _ h1)
      have rr := h2.mono (x2.trans x3)
      refine ⟨l, vs, rfl, SqT.of (e3.fr.ext _ _ hF), fun hw => ?_, fun hw p hp => ?_⟩
      · have hw' : HT.sIx xs.length 0 ol = 0 ∧ HT.sIx xs.length xs.length oh = xs.length := by rw [← h2.length]; exact hw
        refine q _ F3 H3 (x1.trans (x2.trans x3)) e3 ?_
        unfold cutD
        rw [cutV_whole xs hw']
        exact .tup hF rr
      · refine q (.ref p) _ _ (x1.trans (x2.trans (x3.trans (.new (e3.fr.ext.none hp))))) (e3.grow (.push e3.fr.ext hp)) (.tup upd_same ?_)
        refine RpA.mono (.new (e3.fr.ext.none hp)) ?_
        unfold cutV cutD
        rw [rr.length]
        exact (rr.drop _).take _⟩⟩⟩
/-- t + u of tuples -/
theorem pd_addT (ha : PD X a ρ (.tuple xs) ρ1) (hb : PD X b ρ1 (.tuple ys) ρ2) (hl : xs.length + ys.length ≤ 100000) : PD X (.BinOp a .Add b pos) ρ (.tuple (xs ++ ys)) ρ2 :=
  pd_op op_catA (fun F H v w Q ex r1 r2 q => by
    cases r1 with
    | @tup l vs _ h1 h2 =>
      cases r2 with
      | @tup l' us _ g1 g2 =>
        refine ⟨l, l', vs, us, rfl, rfl, SqT.of (ex _ _ h1), SqT.of (ex _ _ g1), by rw [h2.length, g2.length]; exact line_of hl, fun z => ?_, fun _ z => ?_, fun _ _ p hp => ?_⟩
        · subst z
          cases h2
          exact q _ F H (.refl ex) (.tup g1 g2)
        · subst z
          cases g2
          refine q _ F H (.refl ex) ?_
          rw [List.append_nil]
          exact .tup h1 h2
        · exact q _ _ _ (.push ex hp) (.tup upd_same ((h2.append g2).mono (.new (ex.none hp))))) ha hb
/-! ### sorted -/
open PySem.W in
theorem cr_sortedD : CallR X (.builtin "sorted") (fun zs H Q => ∃ (a : Addr) (vs : List V) (ds : List PyData), zs = [.ref a] ∧ SqL X.K H a vs ∧ DpAll X.K H vs ds ∧ AllAlike ds ∧ Sortable ds ∧ (∀ d ∈ ds, X.A.units + 2 + d.depth < cLine) ∧
    ∀ p, H p = none → Q (.ref p) (upd H p (.lst (((vs.zip ds).mergeSort (dataLe false fun b : V × PyData => b.2)).map (·.1))))) := by
  intro pins s σ H zs us Q I r h
  obtain ⟨a, vs, ds, rfl, hs, dp, hal, hk, hu, q⟩ := h
  obtain ⟨its, rv, hl, hz⟩ := I.list hs
  rw [Vals.ref1 r]
  obtain ⟨as, ra⟩ := Dp.readsAll I ds vs its dp rv
  have e : ∀ {vs : List V} {ds : List PyData} {its : List Value} {as : List Addr}, Vals vs its → ReadsAll s.heap its ds as → EachIs (fun v (b : V × PyData) => RelV b.1 v) its (vs.zip ds) ∧ EachIs (fun v (b : V × PyData) => ∃ as, Reads s.heap v b.2 as) its (vs.zip ds) ∧ (vs.zip ds).map (·.2) = ds ∧ vs.length = ds.length := by
    intro vs ds its as rv ra
    induction rv generalizing ds as with
    | nil => cases ra; exact ⟨.nil, .nil, rfl, rfl⟩
    | cons h1 h2 ih =>
      cases ra with
      | cons g1 g2 =>
        obtain ⟨i1, i2, i3, i4⟩ := ih g2
        exact ⟨.cons h1 i1, .cons ⟨_, g1⟩ i2, congrArg _ i3, congrArg (· + 1) i4⟩
  obtain ⟨e1, e2, e3, e4⟩ := e rv ra
  have hzl : (vs.zip ds).length = vs.length := by rw [List.length_zip, e4, Nat.min_self]
  refine sorted_data (enc := fun b : V × PyData => b.2) hl.isList e1 e2 (by rw [e3]; exact hal) (by rw [e3]; exact hk) (by rw [hzl]; exact hz) (fun b hb => hu _ (by rw [← e3]; exact List.mem_map.mpr ⟨b, hb, rfl⟩)) fun out h1 h2 => ?_
  obtain ⟨ep, he'⟩ := PyProof.Rows.sortedAll_at s.heap its out.toArray
  have vo : ∀ {out : List Value} {bs : List (V × PyData)}, EachIs (fun v (b : V × PyData) => RelV b.1 v) out bs → Vals (bs.map (·.1)) out := by
    intro out bs h
    induction h with
    | nil => exact .nil
    | cons h1 _ ih => exact .cons h1 ih
  have hlen : (((vs.zip ds).mergeSort (dataLe false fun b : V × PyData => b.2)).map (·.1)).length ≤ sizeLine := by
    rw [List.length_map, List.length_mergeSort, hzl]; exact hz
  exact ⟨.ref _, upd H (s.heap.objs.size + 1) (.lst _), I.laid (t' := s.toks) (fun _ _ => PyProof.Rows.sortedAll_old) (Nat.le_succ _) ⟨hlen, out, ep, vo h2, he'⟩, rfl, q _ (I.hok.fresh (Nat.le_succ _))⟩
theorem rpa_of {K : PySem.W.Frag} {F : Hp} : ∀ {bs : List (V × PyData)}, (∀ b ∈ bs, Rp K F b.1 b.2) → RpA K F (bs.map (·.1)) (bs.map (·.2))
  | [], _ => .nil
  | b :: bs, h => .cons (h b List.mem_cons_self) (rpa_of fun z hz => h z (List.mem_cons_of_mem _ hz))
theorem rpa_mem {K : PySem.W.Frag} {F : Hp} : ∀ {vs : List V} {ds : List PyData}, RpA K F vs ds → (∀ b ∈ vs.zip ds, Rp K F b.1 b.2) ∧ (vs.zip ds).map (·.2) = ds
  | _, _, .nil => ⟨fun _ h => (by cases h), rfl⟩
  | _, _, .cons h t => ⟨fun b hb => (List.mem_cons.mp hb).elim (fun z => z ▸ h) ((rpa_mem t).1 b), congrArg _ (rpa_mem t).2⟩
/-- data in order -/
def srtD {α : Type} (f : α → PyData) (ns : List α) : List α := ns.mergeSort (PySem.W.dataLe false f)
theorem map_srt {α : Type} (f : α → PyData) (ns : List α) : (ns.map f).mergeSort (PySem.W.dataLe false fun d : PyData => d) = (srtD f ns).map f :=
  (List.map_mergeSort (r := PySem.W.dataLe false f) (s := PySem.W.dataLe false fun d : PyData => d) (f := f) (l := ns) fun _ _ _ _ => rfl).symm
theorem pn_sortedT {α : Type} {f : α → PyData} {ns : List α} {src : Option Nat} (hu : X.A.units + 65 < cLine) (hlay : ∀ a, PyData.canLay0 (f a) = true ∧ PyData.depth (f a) ≤ 60) (hal : ∀ a b, PySem.W.alike (f a) (f b) = true) (hk : PySem.W.Sortable (ns.map f)) (hm : X.mg ("sorted" : Str) = none) (h : PQ X a ρ src (ns.map f) ρ1) (ok : SrcOk ρ1 src (ns.map f)) (hg : Gl X "sorted" := by rfl) (he : starEach [a] X.env = (false, eval a X.env) :: starEach [] X.env := by rfl) : PN X (.Call (.Name "sorted" p) [a] [] pos) ρ (.l ((srtD f ns).map f)) ρ1 :=
  PE_imp (pe_callB cr_sortedD hg hm rfl (pa_cons h pa_nil he) (by decide) (by decide) he) fun σ H Q ⟨C, F, se, q⟩ => ⟨C, F, se, fun v F1 H1 x1 e1 r1 => by
    obtain ⟨l, vs, rfl, s, rr⟩ := r1.look e1 ok
    refine ⟨l, vs, ns.map f, rfl, s, dpa_mono e1.fr.ext _ (RpA.dp _ rr (lay_map hlay ns).1), PySem.W.AllAlike.of hal, hk, fun d hd => ?_, fun p hn => ?_⟩
    · obtain ⟨z, _, rfl⟩ := List.mem_map.mp hd
      have := (hlay z).2
      omega
    · obtain ⟨h1, h2, h3, h4⟩ := e1.lay (o := .lst (((vs.zip (ns.map f)).mergeSort (PySem.W.dataLe false fun b : V × PyData => b.2)).map (·.1))) hn
      refine q p F1 _ x1 h1 h2 h3 h4 ⟨_, upd_same, ?_⟩
      have rm := rpa_mem rr
      have e : (((vs.zip (ns.map f)).mergeSort (PySem.W.dataLe false fun b : V × PyData => b.2)).map (·.2)) = (srtD f ns).map f := by
        have e0 := List.map_mergeSort (r := PySem.W.dataLe false fun b : V × PyData => b.2) (s := PySem.W.dataLe false fun d : PyData => d) (f := fun b : V × PyData => b.2) (l := vs.zip (ns.map f)) fun _ _ _ _ => rfl
        rw [e0, rm.2, map_srt]
      rw [← e]
      exact rpa_of fun b hb => rm.1 b ((List.mergeSort_perm _ _).mem_iff.mp hb)⟩
end
end G

/-! GOrd: orders of data of one kind; names. -/
namespace G
open PySem PySem.Spec PyProof.Rows L2
/-! ### names -/
def nmOk (s : Str) : Bool := (s.cps.all fun c => decide (97 ≤ c) && decide (c ≤ 122)) && (decide (1 ≤ s.cps.size) && decide (s.cps.size ≤ 12))
abbrev Nm : Type := { s : Str // nmOk s = true }
abbrev dNm (n : Nm) : PyData := .str n.1
instance : Inhabited Nm := ⟨⟨"a", by decide +kernel⟩⟩
theorem nm_strOk (n : Nm) : PyData.strOk n.1 = true := by
  have h := n.2
  unfold nmOk at h
  rw [Bool.and_eq_true] at h
  unfold PyData.strOk
  rw [Array.all_eq_true] at h ⊢
  intro i hi
  have := h.1 i hi
  simp only [Bool.and_eq_true, decide_eq_true_eq] at this ⊢
  omega
theorem nm_len (n : Nm) : 1 ≤ n.1.length ∧ n.1.length ≤ 12 := by
  have h := n.2
  unfold nmOk at h
  simp only [Bool.and_eq_true, decide_eq_true_eq] at h
  exact h.2
theorem eqd_nm : EqD 1 dNm := ⟨fun n => ⟨nm_strOk n, by simp [PyData.depth]⟩, fun a b => by
  show (a.1 == b.1) = _
  rw [Bool.beq_eq_decide_eq, Bool.eq_iff_iff]
  simp [Subtype.ext_iff]⟩
/-! ### orders -/
structure LtD {α : Type} (f : α → PyData) (lt : α → α → Bool) : Prop where
  al : ∀ a b, PySem.W.alike (f a) (f b) = true
  lt : ∀ a b, PySem.W.dataLt (f a) (f b) = lt a b
/-- strict and total -/
structure STO {α : Type} (lt : α → α → Bool) : Prop where
  irr : ∀ a, lt a a = false
  tr : ∀ a b c, lt a b = true → lt b c = true → lt a c = true
  tot : ∀ a b, a ≠ b → lt a b = true ∨ lt b a = true
theorem STO.asymm {α : Type} {lt : α → α → Bool} (s : STO lt) {a b : α} (h : lt a b = true) : lt b a = false := by
  cases q : lt b a with
  | false => rfl
  | true => have := s.tr a b a h q; rw [s.irr] at this; cases this
abbrev ltI (a b : Int) : Bool := decide (a < b)
abbrev ltS (a b : Str) : Bool := decide (a.cps.toList < b.cps.toList)
abbrev ltN (a b : Nm) : Bool := ltS a.1 b.1
def lt2 {α β : Type} [DecidableEq α] (lt : α → α → Bool) (lu : β → β → Bool) (p q : α × β) : Bool := if p.1 = q.1 then lu p.2 q.2 else lt p.1 q.1
def lt3 {α β γ : Type} [DecidableEq α] [DecidableEq β] (lt : α → α → Bool) (lu : β → β → Bool) (lv : γ → γ → Bool) (p q : α × β × γ) : Bool := if p.1 = q.1 then (if p.2.1 = q.2.1 then lv p.2.2 q.2.2 else lu p.2.1 q.2.1) else lt p.1 q.1
def ltL {α : Type} [DecidableEq α] (lt : α → α → Bool) : List α → List α → Bool
  | [], [] => false
  | [], _ :: _ => true
  | _ :: _, [] => false
  | x :: xs, y :: ys => if x = y then ltL lt xs ys else lt x y
theorem sto_I : STO ltI := ⟨fun a => by simp, fun a b c h1 h2 => by simp at *; omega, fun a b h => by simp; omega⟩
theorem cps_inj {a b : Str} (h : a.cps.toList = b.cps.toList) : a = b := by
  cases a; cases b; simpa using Array.toList_inj.mp h
theorem sto_S : STO ltS := ⟨fun a => by simp [List.lt_irrefl], fun a b c h1 h2 => by simp only [decide_eq_true_eq] at *; exact List.lt_trans h1 h2, fun a b h => by
  simp only [decide_eq_true_eq]
  rcases Classical.em (a.cps.toList < b.cps.toList) with q | q
  · exact .inl q
  · right
    have h1 : b.cps.toList ≤ a.cps.toList := List.not_lt.mp q
    rcases Classical.em (b.cps.toList < a.cps.toList) with z | z
    · exact z
    · exact absurd (cps_inj (List.le_antisymm (List.not_lt.mp z) h1)) h⟩
theorem sto_N : STO ltN := ⟨fun a => sto_S.irr _, fun a b c => sto_S.tr _ _ _, fun a b h => sto_S.tot _ _ (fun z => h (Subtype.ext z))⟩
theorem sto_2 {α β : Type} [DecidableEq α] {lt : α → α → Bool} {lu : β → β → Bool} (s : STO lt) (t : STO lu) : STO (lt2 lt lu) := ⟨fun a => by
    unfold lt2; rw [if_pos rfl]; exact t.irr _, fun a b c h1 h2 => by
    unfold lt2 at *
    by_cases e1 : a.1 = b.1
    · rw [if_pos e1] at h1
      by_cases e2 : b.1 = c.1
      · rw [if_pos e2] at h2; rw [if_pos (e1.trans e2)]; exact t.tr _ _ _ h1 h2
      · rw [if_neg e2] at h2; rw [if_neg (by rw [e1]; exact e2), e1]; exact h2
    · rw [if_neg e1] at h1
      by_cases e2 : b.1 = c.1
      · rw [if_neg (by rw [← e2]; exact e1), ← e2]; exact h1
      · rw [if_neg e2] at h2
        have h3 := s.tr _ _ _ h1 h2
        rw [if_neg (fun z => by rw [z, s.irr] at h3; cases h3)]; exact h3, fun a b h => by
    unfold lt2
    by_cases e : a.1 = b.1
    · rw [if_pos e, if_pos e.symm]
      exact t.tot _ _ (fun z => h (Prod.ext e z))
    · rw [if_neg e, if_neg (fun z => e z.symm)]; exact s.tot _ _ e⟩
theorem lt3_eq {α β γ : Type} [DecidableEq α] [DecidableEq β] (lt : α → α → Bool) (lu : β → β → Bool) (lv : γ → γ → Bool) : lt3 lt lu lv = lt2 lt (lt2 lu lv) := rfl
theorem sto_3 {α β γ : Type} [DecidableEq α] [DecidableEq β] {lt : α → α → Bool} {lu : β → β → Bool} {lv : γ → γ → Bool} (s : STO lt) (t : STO lu) (u : STO lv) : STO (lt3 lt lu lv) := by rw [lt3_eq]; exact sto_2 s (sto_2 t u)
theorem sto_L {α : Type} [DecidableEq α] {lt : α → α → Bool} (s : STO lt) : STO (ltL lt) := by
  refine ⟨fun a => ?_, fun a => ?_, fun a => ?_⟩
  · induction a with
    | nil => rfl
    | cons x xs ih => show (if x = x then ltL lt xs xs else _) = false; rw [if_pos rfl]; exact ih
  · induction a with
    | nil =>
      intro b c h1 h2
      cases b with
      | nil => cases h1
      | cons y ys =>
        cases c with
        | nil => cases h2
        | cons z zs => rfl
    | cons x xs ih =>
      intro b c h1 h2
      cases b with
      | nil => cases h1
      | cons y ys =>
        cases c with
        | nil => cases h2
        | cons z zs =>
          have h1 : (if x = y then ltL lt xs ys else lt x y) = true := h1
          have h2 : (if y = z then ltL lt ys zs else lt y z) = true := h2
          show (if x = z then ltL lt xs zs else lt x z) = true
          by_cases e1 : x = y
          · rw [if_pos e1] at h1
            by_cases e2 : y = z
            · rw [if_pos e2] at h2; rw [if_pos (e1.trans e2)]; exact ih _ _ h1 h2
            · rw [if_neg e2] at h2; rw [if_neg (by rw [e1]; exact e2), e1]; exact h2
          · rw [if_neg e1] at h1
            by_cases e2 : y = z
            · rw [if_neg (by rw [← e2]; exact e1), ← e2]; exact h1
            · rw [if_neg e2] at h2
              have h3 := s.tr _ _ _ h1 h2
              rw [if_neg (fun z => by rw [z, s.irr] at h3; cases h3)]; exact h3
  · induction a with
    | nil =>
      intro b h
      cases b with
      | nil => exact absurd rfl h
      | cons y ys => exact .inl rfl
    | cons x xs ih =>
      intro b h
      cases b with
      | nil => exact .inr rfl
      | cons y ys =>
        show (if x = y then ltL lt xs ys else lt x y) = true ∨ (if y = x then ltL lt ys xs else lt y x) = true
        by_cases e : x = y
        · rw [if_pos e, if_pos e.symm]
          exact ih _ (fun z => h (by rw [e, z]))
        · rw [if_neg e, if_neg (fun z => e z.symm)]; exact s.tot _ _ e
open PySem.W
theorem ltd_int : LtD PyData.int ltI := ⟨fun _ _ => rfl, fun a b => dataLt_int a b⟩
theorem ltd_nm : LtD dNm ltN := ⟨fun _ _ => rfl, fun a b => dataLt_str a.1 b.1⟩
theorem row_cons {x y : PyData} (h : alike x y = true) (xs ys : List PyData) : rowLt (x :: xs) (y :: ys) = if PyData.eqv x y = true then rowLt xs ys else dataLt x y := dataLt_cons h xs ys
theorem row_nil : rowLt [] [] = false := by unfold rowLt keyToksAll; simp only [PyProof.Rows.lexLt]; decide
theorem row_nc (y : PyData) (ys : List PyData) : rowLt [] (y :: ys) = true := by
  show PyProof.Rows.lexLt itemOrd [.inl 0] (.inl 1 :: (keyToks y ++ keyToksAll ys)) = true
  rw [PyProof.Rows.lex_diff (O := itemOrd) (by intro z; cases z)]
  rfl
theorem row_cn (y : PyData) (ys : List PyData) : rowLt (y :: ys) [] = false := by
  show PyProof.Rows.lexLt itemOrd (.inl 1 :: (keyToks y ++ keyToksAll ys)) [.inl 0] = false
  rw [PyProof.Rows.lex_diff (O := itemOrd) (by intro z; cases z)]
  rfl
section
variable {α β γ : Type} [DecidableEq α] [DecidableEq β] [DecidableEq γ] {f : α → PyData} {g : β → PyData} {h : γ → PyData} {m n k : Nat} {lt : α → α → Bool} {lu : β → β → Bool} {lv : γ → γ → Bool}
theorem ltd_T2 (e : EqD m f) (a : LtD f lt) (e2 : EqD n g) (b : LtD g lu) (s : STO lu) : LtD (dT2 f g) (lt2 lt lu) := ⟨fun p q => by
    show alikeAll [f p.1, g p.2] [f q.1, g q.2] = true
    simp only [alikeAll, a.al, b.al, Bool.and_true], fun p q => by
    show rowLt [f p.1, g p.2] [f q.1, g q.2] = _
    unfold lt2
    rw [row_cons (a.al _ _), e.eqv, a.lt, row_cons (b.al _ _), e2.eqv, b.lt, row_nil]
    by_cases h1 : p.1 = q.1
    · rw [if_pos h1, if_pos (decide_eq_true h1)]
      by_cases h2 : p.2 = q.2
      · rw [if_pos (decide_eq_true h2), h2, s.irr]
      · rw [if_neg (by simpa using h2)]
    · rw [if_neg h1, if_neg (by simpa using h1)]⟩
theorem ltd_T3 (e : EqD m f) (a : LtD f lt) (e2 : EqD n g) (b : LtD g lu) (e3 : EqD k h) (c : LtD h lv) (s : STO lv) : LtD (dT3 f g h) (lt3 lt lu lv) := ⟨fun p q => by
    show alikeAll [f p.1, g p.2.1, h p.2.2] [f q.1, g q.2.1, h q.2.2] = true
    simp only [alikeAll, a.al, b.al, c.al, Bool.and_true], fun p q => by
    show rowLt [f p.1, g p.2.1, h p.2.2] [f q.1, g q.2.1, h q.2.2] = _
    unfold lt3
    rw [row_cons (a.al _ _), e.eqv, a.lt, row_cons (b.al _ _), e2.eqv, b.lt, row_cons (c.al _ _), e3.eqv, c.lt, row_nil]
    by_cases h1 : p.1 = q.1
    · rw [if_pos h1, if_pos (decide_eq_true h1)]
      by_cases h2 : p.2.1 = q.2.1
      · rw [if_pos (decide_eq_true h2), if_pos h2]
        by_cases h3 : p.2.2 = q.2.2
        · rw [if_pos (decide_eq_true h3), h3, s.irr]
        · rw [if_neg (by simpa using h3)]
      · rw [if_neg (by simpa using h2), if_neg h2]
    · rw [if_neg h1, if_neg (by simpa using h1)]⟩
theorem al_all (a : LtD f lt) : ∀ xs ys : List α, alikeAll (xs.map f) (ys.map f) = true
  | [], [] => by simp [alikeAll]
  | [], _ :: _ => by simp [alikeAll]
  | _ :: _, [] => by simp [alikeAll]
  | x :: xs, y :: ys => by
    show alikeAll (f x :: xs.map f) (f y :: ys.map f) = true
    rw [alikeAll, a.al, al_all a xs ys]; rfl
theorem row_map (e : EqD m f) (a : LtD f lt) : ∀ xs ys : List α, rowLt (xs.map f) (ys.map f) = ltL lt xs ys
  | [], [] => row_nil
  | [], _ :: _ => row_nc _ _
  | _ :: _, [] => row_cn _ _
  | x :: xs, y :: ys => by
    show rowLt (f x :: xs.map f) (f y :: ys.map f) = if x = y then ltL lt xs ys else lt x y
    rw [row_cons (a.al _ _), e.eqv, a.lt, row_map e a xs ys]
    by_cases h : x = y
    · rw [if_pos h, if_pos (decide_eq_true h)]
    · rw [if_neg h, if_neg (by simpa using h)]
theorem ltd_L (e : EqD m f) (a : LtD f lt) : LtD (dL f) (ltL lt) := ⟨fun p q => al_all a p q, fun p q => row_map e a p q⟩
end
/-! ### what sorted gives -/
section
variable {α : Type} {f : α → PyData} {lt : α → α → Bool}
theorem srtD_perm (f : α → PyData) (ns : List α) : (srtD f ns).Perm ns := List.mergeSort_perm ns _
theorem srtD_len (f : α → PyData) (ns : List α) : (srtD f ns).length = ns.length := (srtD_perm f ns).length_eq
theorem srtD_mem {f : α → PyData} {ns : List α} {x : α} : x ∈ srtD f ns ↔ x ∈ ns := (srtD_perm f ns).mem_iff
theorem le_of (l : LtD f lt) (a b : α) : dataLe false f a b = !lt b a := by
  rw [dataLe_eq]
  show (!dataLt (f b) (f a)) = _
  rw [l.lt]
theorem srtD_ord (l : LtD f lt) (s : STO lt) (ns : List α) : (srtD f ns).Pairwise (fun a b => lt b a = false) := by
  have h := List.pairwise_mergeSort (le := dataLe false f) (fun a b c h1 h2 => by
    rw [le_of l] at *
    simp only [Bool.not_eq_true'] at *
    cases q : lt c a with
    | false => rfl
    | true =>
      by_cases e : a = b
      · subst e; rw [h2] at q; cases q
      · rcases s.tot _ _ e with z | z
        · have := s.tr _ _ _ q z; rw [h2] at this; cases this
        · rw [h1] at z; cases z) (fun a b => by
    rw [le_of l, le_of l]
    cases q : lt b a with
    | false => rfl
    | true => rw [s.asymm q]; rfl) ns
  exact h.imp fun h => by rw [le_of l] at h; simpa using h
theorem ordD_one (s : STO lt) {a b : List α} (hp : a.Perm b) (ha : a.Pairwise fun a b => lt b a = false) (hb : b.Pairwise fun a b => lt b a = false) : a = b :=
  hp.eq_of_pairwise (fun x y _ _ h1 h2 => by
    rcases Classical.em (x = y) with e | e
    · exact e
    · rcases s.tot _ _ e with z | z
      · rw [h2] at z; cases z
      · rw [h1] at z; cases z) ha hb
theorem srtD_of (l : LtD f lt) (s : STO lt) {a b : List α} (hp : a.Perm b) (ha : a.Pairwise fun a b => lt b a = false) : a = srtD f b := ordD_one s (hp.trans (srtD_perm f b).symm) ha (srtD_ord l s b)
theorem srtD_perm_eq (l : LtD f lt) (s : STO lt) {a b : List α} (hp : a.Perm b) : srtD f a = srtD f b := srtD_of l s ((srtD_perm f a).trans hp) (srtD_ord l s a)
theorem srtD_id (l : LtD f lt) (s : STO lt) {a : List α} (ha : a.Pairwise fun a b => lt b a = false) : srtD f a = a := (srtD_of l s (List.Perm.refl a) ha).symm
end
theorem sbl_T2 {α β : Type} {f : α → PyData} {g : β → PyData} (ns : List (α × β)) : Sortable (ns.map (dT2 f g)) := .tuples fun b => ⟨_, _, rfl⟩
theorem sbl_T3 {α β γ : Type} {f : α → PyData} {g : β → PyData} {h : γ → PyData} (ns : List (α × β × γ)) : Sortable (ns.map (dT3 f g h)) := .tuples fun b => ⟨_, _, rfl⟩
theorem sbl_I (ns : List Int) : Sortable (ns.map PyData.int) := .others fun b => ⟨fun z => (by cases z), fun _ z => (by cases z)⟩
theorem sbl_N (ns : List Nm) : Sortable (ns.map dNm) := .others fun b => ⟨fun z => (by cases z), fun _ z => (by cases z)⟩
theorem sbl_L {α : Type} {f : α → PyData} (ns : List (List α)) : Sortable (ns.map (dL f)) := .others fun b => ⟨fun z => (by cases z), fun _ z => (by cases z)⟩
end G

/-! GTail: chains of three, ranges downwards, sums of ints and True, index, count. -/
namespace G
open PySem PySem.Spec PyProof.Rows L2
section
variable {X : Cx} {W : WX} {e a b c d tg iter elt o : Expr} {es : List Expr} {p pos pos' p1 p2 : Pos} {ρ ρ' ρ1 ρ2 ρ3 : En} {x y z : PyData} {xs ys : List PyData} {i j l m : Int}
theorem td_chain3 {op op' op'' : CmpOp} {f g h : Int → Int → Bool} (hf : cmpI op = some f) (hg : cmpI op' = some g) (hh : cmpI op'' = some h) (ha : PD X a ρ (.int i) ρ1) (hb : PD X b ρ1 (.int j) ρ2) (hc : PD X c ρ2 (.int l) ρ2) (hd : PD X d ρ2 (.int m) ρ2)
    (hm : lastMarks [op, op', op''] [b, c, d] = false := by with_unfolding_all rfl) : TD X (.Compare a [op, op', op''] [b, c, d] pos) ρ (f i j && (g j l && h l m)) ρ2 := by
  refine ⟨fun pins s σ H Q I ⟨C, F, se, q⟩ => ?_⟩
  refine isTrue_chain (thn (ha.run pins s σ H (fun v H1 => ∃ F1, Ex F F1 ∧ SE X.K C F1 H1 σ ρ1 ∧ v = .int i) I ⟨C, F, se, fun v F1 H1 x1 e1 r1 => ⟨F1, x1, e1, rp_int r1⟩⟩) fun v s1 ⟨xv, H1, I1, r1, F1, x1, e1, q1⟩ => test_link (thn (hb.run pins s1 σ H1 (fun v H2 => ∃ F2, Ex F F2 ∧ SE X.K C F2 H2 σ ρ2 ∧ v = .int j) I1 ⟨C, F1, e1, fun v F2 H2 x2 e2 r2 => ⟨F2, x1.trans x2, e2, rp_int r2⟩⟩) fun u s2 ⟨yv, H2, I2, r2, F2, x2, e2, q2⟩ => ?_)) hm
  subst q1 q2
  refine thn (op_cmpI hf pins s2 σ H2 _ _ v u (fun z H3 => H3 = H2 ∧ z = .bl (f i j)) I2 r1 r2 ⟨i, j, rfl, rfl, rfl, rfl⟩) fun dv s3 ⟨z, H3, I3, r3, eh, ez⟩ => ?_
  subst eh ez
  cases r3
  refine wpAny_truthy_bool ?_
  cases k1 : f i j with
  | false =>
    exact ite_ff ⟨H3, I3, by have := q F2 H3 x2 e2; rw [k1, Bool.false_and] at this; exact this⟩
  | true =>
    refine ite_tt (test_link (thn (hc.run pins s3 σ H3 (fun v H4 => ∃ F3, Ex F F3 ∧ SE X.K C F3 H4 σ ρ2 ∧ v = .int l) I3 ⟨C, F2, e2, fun v F3 H4 x3 e3 r3 => ⟨F3, x2.trans x3, e3, rp_int r3⟩⟩) fun u2 s4 ⟨wv, H4, I4, r4, F3, x3, e3, q3⟩ => ?_))
    subst q3
    refine thn (op_cmpI hg pins s4 σ H4 _ _ u u2 (fun z H5 => H5 = H4 ∧ z = .bl (g j l)) I4 r2 r4 ⟨j, l, rfl, rfl, rfl, rfl⟩) fun dv2 s5 ⟨z2, H5, I5, r5, eh2, ez2⟩ => ?_
    subst eh2 ez2
    cases r5
    refine wpAny_truthy_bool ?_
    cases k2 : g j l with
    | false =>
      exact ite_ff ⟨H5, I5, by have := q F3 H5 x3 e3; rw [k1, k2, Bool.false_and, Bool.true_and] at this; exact this⟩
    | true =>
      refine ite_tt (test_last (thn (hd.run pins s5 σ H5 (fun v H6 => ∃ F4, Ex F F4 ∧ SE X.K C F4 H6 σ ρ2 ∧ v = .int m) I5 ⟨C, F3, e3, fun v F4 H6 x4 e4 r6 => ⟨F4, x3.trans x4, e4, rp_int r6⟩⟩) fun u3 s6 ⟨tv, H6, I6, r6, F4, x4, e4, q4⟩ => ?_))
      subst q4
      refine thn (op_cmpI hh pins s6 σ H6 _ _ u2 u3 (fun z H7 => H7 = H6 ∧ z = .bl (h l m)) I6 r4 r6 ⟨l, m, rfl, rfl, rfl, rfl⟩) fun dv3 s7 ⟨z3, H7, I7, r7, eh3, ez3⟩ => ?_
      subst eh3 ez3
      cases r7
      refine wpAny_truthy_bool ⟨H7, I7, ?_⟩
      have := q F4 H7 x4 e4
      rw [k1, k2, Bool.true_and, Bool.true_and] at this
      exact this
/-! ### range(m, n, -1) -/
def rgDn (m n : Int) : List Int := (List.range (m - n).toNat).map fun i : Nat => m - (i : Int)
theorem rgDn_len (m n : Int) : (rgDn m n).length = (m - n).toNat := by unfold rgDn; rw [List.length_map, List.length_range]
theorem rgDn_get {m n : Int} {i : Nat} (h : i < (m - n).toNat) : (rgDn m n)[i]? = some (m - (i : Int)) := by
  unfold rgDn; rw [List.getElem?_map, List.getElem?_range h]; rfl
theorem id_rangeDn {m n : Int} (hm : X.mg "range" = none) (ha : PD X a ρ (.int m) ρ1) (hb : PD X b ρ1 (.int n) ρ2) (hc : PD X c ρ2 (.int (-1)) ρ3) (h1 : -(2 ^ 62) ≤ m) (h2 : m < 2 ^ 62) (h3 : -(2 ^ 62) ≤ n) (h4 : n < 2 ^ 62) (hg : Gl X "range" := by rfl)
    (hs : starEach [a, b, c] X.env = (false, eval a X.env) :: starEach [b, c] X.env := by rfl) (hs2 : starEach [b, c] X.env = (false, eval b X.env) :: starEach [c] X.env := by rfl) (hs3 : starEach [c] X.env = (false, eval c X.env) :: starEach [] X.env := by rfl) (hpl : (backTo pos (starEach [b, c] X.env)).any (·.1) = false := by rfl) :
    ID X tg (.Call (.Name "range" p) [a, b, c] [] pos) ρ ((rgDn m n).map .int) (fun _ => True) none ρ3 :=
  PI_imp (pi_range3 hg hm (ad_cons ha (ad_cons hb (ad_cons hc ad_nil hs3) hs2) hs) hs hpl) fun σ H R ⟨C, F, se, q⟩ => ⟨C, F, se, fun vs F1 H1 x1 e1 r1 => by
    cases r1 with
    | cons a1 a2 =>
      cases a2 with
      | cons a2 a3 =>
        cases a3 with
        | cons a3 a4 =>
          cases a4
          rw [rp_int a1, rp_int a2, rp_int a3]
          refine ⟨m, n, -1, _, rfl, RgC.neg h1 h2 h3 h4, q _ F1 H1 x1 e1 ⟨fun i C F2 H2 σ2 ρ2 x2 e2 ok2 hs hi => ?_, fun C F2 H2 σ2 ρ2 x2 e2 ok2 hs => ?_, fun i C F2 H2 σ2 ρ2 v H3 x2 e2 ok2 hs hi y => ?_⟩⟩
          · exact walk_rangeC.goes i H2 (by rw [List.length_map, rgDn_len] at hi; exact hi) trivial
          · rw [List.length_map, rgDn_len]; exact walk_rangeC.stops H2 trivial
          · rw [List.length_map, rgDn_len] at hi
            obtain ⟨rfl, rfl⟩ := walk_rangeC.yields i H2 v H3 hi trivial y
            refine ⟨.int (m - (i : Int)), F2, by rw [List.getElem?_map, rgDn_get hi]; rfl, .refl _, e2, ?_⟩
            show Rp X.K F2 (V.int (m + ((i : Nat) : Int) * (-1))) _
            rw [show m + ((i : Nat) : Int) * (-1) = m - (i : Int) by omega]
            exact .int _⟩
/-! ### sum of ints and True -/
def vV : Option Int → V
  | none => .bl true
  | some i => .int i
theorem rpa_V {K : PySem.W.Frag} {F : Hp} : ∀ {ns : List (Option Int)} {vs : List V}, RpA K F vs (ns.map dV) → vs = ns.map vV
  | [], _, h => by cases h; rfl
  | n :: ns, _, h => by
    rw [List.map_cons] at h
    cases h with
    | cons q r =>
      rw [rpa_V r]
      cases n with
      | none => rw [rp_bool q]; rfl
      | some i => rw [rp_int q]; rfl
theorem preSum_map (f : Nat → Int) (ns : List (Option Int)) (hf : ∀ i (h : i < ns.length), f i = vI (ns[i])) : ∀ j, j ≤ ns.length → preSum f j = ((ns.take j).map vI).sum
  | 0, _ => rfl
  | j + 1, h => by
    rw [preSum, preSum_map f ns hf j (by omega), List.take_succ, List.getElem?_eq_getElem (by omega), hf j (by omega), List.map_append, List.sum_append]
    simp
theorem cr_sumV (hc : X.calm = true) : CallR X (.builtin "sum") (fun vs H Q => ∃ (a : Addr) (ns : List (Option Int)), vs = [V.ref a] ∧ SqL X.K H a (ns.map vV) ∧ Q (.int (ns.map vI).sum) H) := by
  intro pins s σ H vs us Q I r h
  obtain ⟨a, ns, rfl, hs, q⟩ := h
  obtain ⟨its, rv, hl, _⟩ := I.list hs
  rw [Vals.ref1 r]
  have hlL := hl.isList
  have hlen : its.length = ns.length := by have := rv.length; simpa using this.symm
  have hlt : a < s.heap.objs.size := by obtain ⟨_, e, _⟩ := hlL; exact Heap.lt_size e
  refine call_sum_walkAnyB (wpAny_pyIter_list hlL ⟨_, _, _, _, _, _, _, fun i => (ns[i]?.map vI).getD 0, rfl, (Walks.list (A := X.A.in1) (I.ok.hd hc) _ a (Nat.ne_of_lt hlt) its.toArray).toS, ⟨⟨_, Heap.get?_push_size _ rfl, rfl, rfl⟩, hlL.push _⟩, fun b hb => ?_, fun i v hv => ?_, fun s' t' mv => ?_⟩)
  · show b < (s.heap.push _).objs.size
    rw [Heap.size_push]
    rcases List.mem_cons.mp hb with rfl | hb
    · exact Nat.lt_succ_self _
    · rcases List.mem_cons.mp hb with rfl | hb
      · exact Nat.lt_succ_of_lt hlt
      · cases hb
  · have hv' : its[i]? = some v := by simpa using hv
    have hi : i < its.length := (List.getElem?_eq_some_iff.mp hv').1
    have hn : ns[i]? = some ns[i] := List.getElem?_eq_getElem (by omega)
    obtain ⟨u, hu, ru⟩ := rv.get (i := i) (x := vV ns[i]) (by rw [List.getElem?_map, hn]; rfl)
    rw [hv'] at hu
    cases hu
    show NumOf ((ns[i]?.map vI).getD 0) v
    rw [hn]
    show NumOf (vI ns[i]) v
    cases hq : ns[i] with
    | none =>
      rw [hq] at ru
      cases ru
      exact .inr ⟨true, rfl, rfl⟩
    | some k =>
      rw [hq] at ru
      obtain ⟨t, rfl⟩ := ru
      exact .inl ⟨t, rfl⟩
  · have e : s' = { s with heap := s'.heap, toks := s'.toks } := by
      have h1 := mv.gens
      have h2 := mv.drawn
      have h3 := mv.os
      cases s'
      simp_all
    have hsum : preSum (fun i => (ns[i]?.map vI).getD 0) its.toArray.size = (ns.map vI).sum := by
      rw [List.size_toArray, hlen, preSum_map _ ns (fun i h => by rw [List.getElem?_eq_getElem h]; rfl) _ (Nat.le_refl _), List.take_length]
    rw [hsum, e]
    refine ⟨.int _, H, I.kept (fun b o eb => ?_), ⟨_, rfl⟩, q⟩
    refine mv.heap b o (fun hm => ?_) (Heap.get?_push_of_some _ eb)
    rcases List.mem_cons.mp hm with e1 | hm
    · exact absurd (e1 ▸ Heap.lt_size eb) (Nat.lt_irrefl _)
    · cases hm
theorem pd_sumV {ns : List (Option Int)} (hc : X.calm = true) (hm : X.mg ("sum" : Str) = none) (h : PD X a ρ (.list (ns.map dV)) ρ1) (hg : Gl X "sum" := by rfl) (he : starEach [a] X.env = (false, eval a X.env) :: starEach [] X.env := by rfl) : PD X (.Call (.Name "sum" p) [a] [] pos) ρ (.int (ns.map vI).sum) ρ1 :=
  PE_imp (pe_callB (cr_sumV hc) hg hm rfl (pa_cons h pa_nil he) (by decide) (by decide) he) fun σ H Q ⟨C, F, se, q⟩ => ⟨C, F, se, fun v F1 H1 x1 e1 r1 => by
    cases r1 with
    | lst h1 h2 =>
      rw [rpa_V h2] at h1
      exact ⟨_, ns, rfl, e1.fr.ext.l h1, q _ F1 H1 x1 e1 (.int _)⟩⟩
/-! ### index, count -/
variable {α : Type} [DecidableEq α] {f : α → PyData} {ns : List α} {v : α} {n : Nat}
theorem pd_indexT {k : Nat} (hu : X.A.units + 65 < cLine) (q : EqD n f) (hm : n ≤ 60) (ho : PD X o ρ (.list (ns.map f)) ρ1) (ha : PD X a ρ1 (f v) ρ2) (hk : ns[k]? = some v) (hno : ∀ j : Nat, j < k → ∀ z, ns[j]? = some z → z ≠ v)
    (hbase : attributeBase o "index" X.env (eval o X.env) = eval o X.env := by rfl)
    (hfew : ((backTo p3 (starEach [a] X.env)).all (fun x => !x.1) && (backToKw p3 (keywordEach [] X.env)).all (fun x => x.1.isSome)
      && decide ([a].length + ([] : List Keyword).length + (if ([] : List Keyword).isEmpty then 0 else 1) < 30)) = true := by rfl)
    (hline : (p2.endLine == p3.line) = true := by rfl) (hs : starEach [a] X.env = (false, eval a X.env) :: starEach [] X.env := by rfl) :
    PD X (.Call (.Attribute o "index" p2) [a] [] p3) ρ (.int (k : Int)) ρ2 :=
  PE_imp (pe_bm PySem.F.plainAttrs_list PySem.F.slot_list_index PySem.F.type_list_index (mt_indexD hu) ho (pa_cons ha pa_nil hs) hbase hfew hline hs (by rfl)) fun σ H Q ⟨C, F, se, w⟩ => ⟨C, F, se, fun u F1 H1 x1 e1 r1 => by
    cases r1 with
    | @lst l vs _ h1 h2 =>
      refine ⟨.inl ⟨rfl, vs, e1.fr.ext.l h1⟩, C, F1, e1, fun t F2 H2 x2 e2 r2 => ?_⟩
      obtain ⟨d1, d2⟩ := dp_lst e2.fr.ext (e2.fr.ext.l (x2.l h1)) (h2.mono x2) q hm
      refine ⟨l, t, f v, ns.map f, k, f v, rfl, rfl, d1, dp_mono e2.fr.ext _ (Rp.dp _ r2 (q.lay v).1), d2, q.flat hm v, by rw [List.getElem?_map, hk]; rfl, by rw [q.eqv]; exact decide_eq_true rfl, fun j z hj hz => ?_, w _ F2 H2 (x1.trans x2) e2 (.int _)⟩
      rw [List.getElem?_map] at hz
      cases hz' : ns[j]? with
      | none => rw [hz'] at hz; cases hz
      | some z' =>
        rw [hz'] at hz
        cases hz
        rw [q.eqv]
        exact decide_eq_false (hno j hj z' hz')⟩
theorem mt_countD (hu : X.A.units + 65 < cLine) : MtR X "list.count" (fun x xs H Q => ∃ (a : Addr) (y : V) (d : PyData) (ds : List PyData), x = V.ref a ∧ xs = [y] ∧ Dp X.K H (V.ref a) (.list ds) ∧ Dp X.K H y d ∧ SeqAt.shaped (.list ds) = true ∧ SeqAt.shaped d = true ∧ Q (.int ((ds.countP fun z => PyData.eqv z d : Nat) : Int)) H) := by
  intro pins s σ H x xs v us Q I rx rxs h
  obtain ⟨a, y, d, ds, rfl, rfl, hl, hy, sl, sd, q⟩ := h
  cases rx
  cases rxs with
  | cons ry rt =>
    rename_i uy ut
    cases rt
    obtain ⟨bs, r1⟩ := Dp.reads I d y uy hy ry
    have hxs : PyData.canLayAll0 ds = true := SeqAt.canLay_of_shaped sl
    have hroom : X.A.units + 1 + min (PyData.depthAll ds) d.depth < cLine := room_in_shaped sd hu
    cases hl with
    | lst hs ha =>
      obtain ⟨its, rv, pl, hlen⟩ := I.list hs
      obtain ⟨as, h4⟩ := Dp.readsAll I ds _ its ha rv
      exact PySem.SeqAt.count_list_data pl.isList (show ReadsAll s.heap its.toArray.toList ds as from h4) r1 (PyData.plainAll_of_canLay0 _ hxs) (PyData.plain_of_canLay0 _ (SeqAt.canLay_of_shaped sd)) hroom ⟨.int _, H, I.tok _, ⟨_, rfl⟩, q⟩
theorem pd_countT (hu : X.A.units + 65 < cLine) (q : EqD n f) (hm : n ≤ 60) (ho : PD X o ρ (.list (ns.map f)) ρ1) (ha : PD X a ρ1 (f v) ρ2)
    (hbase : attributeBase o "count" X.env (eval o X.env) = eval o X.env := by rfl)
    (hfew : ((backTo p3 (starEach [a] X.env)).all (fun x => !x.1) && (backToKw p3 (keywordEach [] X.env)).all (fun x => x.1.isSome)
      && decide ([a].length + ([] : List Keyword).length + (if ([] : List Keyword).isEmpty then 0 else 1) < 30)) = true := by rfl)
    (hline : (p2.endLine == p3.line) = true := by rfl) (hs : starEach [a] X.env = (false, eval a X.env) :: starEach [] X.env := by rfl) :
    PD X (.Call (.Attribute o "count" p2) [a] [] p3) ρ (.int ((ns.countP fun z => decide (z = v) : Nat) : Int)) ρ2 :=
  PE_imp (pe_bm PySem.F.plainAttrs_list PySem.F.slot_list_count PySem.F.type_list_count (mt_countD hu) ho (pa_cons ha pa_nil hs) hbase hfew hline hs (by rfl)) fun σ H Q ⟨C, F, se, w⟩ => ⟨C, F, se, fun u F1 H1 x1 e1 r1 => by
    cases r1 with
    | @lst l vs _ h1 h2 =>
      refine ⟨.inl ⟨rfl, vs, e1.fr.ext.l h1⟩, C, F1, e1, fun t F2 H2 x2 e2 r2 => ?_⟩
      obtain ⟨d1, d2⟩ := dp_lst e2.fr.ext (e2.fr.ext.l (x2.l h1)) (h2.mono x2) q hm
      refine ⟨l, t, f v, ns.map f, rfl, rfl, d1, dp_mono e2.fr.ext _ (Rp.dp _ r2 (q.lay v).1), d2, q.flat hm v, ?_⟩
      have e : ((ns.map f).countP fun z => PyData.eqv z (f v)) = ns.countP fun z => decide (z = v) := by
        rw [List.countP_map]
        refine List.countP_congr fun z _ => ?_
        show PyData.eqv (f z) (f v) = true ↔ _
        rw [q.eqv]
      rw [e]
      exact w _ F2 H2 (x1.trans x2) e2 (.int _)⟩
end
end G

/-! GDict3: dicts of one kind. -/
namespace G
open PySem PySem.Spec PyProof.Rows L2
abbrev kN (n : Nm) : Key := .inr n.1
theorem kN_inj (a b : Nm) (h : kN a = kN b) : a = b := Subtype.ext (Sum.inr.inj h)
theorem kT3_inj {α β γ : Type} {f : α → Key} {g : β → Key} {h : γ → Key} (hf : ∀ a b, f a = f b → a = b) (hg : ∀ a b, g a = g b → a = b) (hh : ∀ a b, h a = h b → a = b) (p q : α × β × γ) (e : kT3 f g h p = kT3 f g h q) : p = q := by
  obtain ⟨a, b, c⟩ := p
  obtain ⟨a', b', c'⟩ := q
  have h1 : f a = f a' ∧ g b = g b' ∧ h c = h c' := by simpa [kT3] using e
  rw [hf _ _ h1.1, hg _ _ h1.2.1, hh _ _ h1.2.2]
section
variable {κ α : Type} [DecidableEq κ] {ky : κ → Key} {kt : κ → List Key} {f : α → PyData} {y : PyData}
def gD [Inhabited α] (m : List (κ × α)) (k : κ) : α := (gv m k).getD default
theorem gD_some [Inhabited α] {m : List (κ × α)} {k : κ} {v : α} (h : gv m k = some v) : gD m k = v := by unfold gD; rw [h]; rfl
theorem gv_gD [Inhabited α] {m : List (κ × α)} {k : κ} (h : (gv m k).isSome = true) : gv m k = some (gD m k) := by
  unfold gD
  cases q : gv m k with
  | none => rw [q] at h; cases h
  | some v => rfl
theorem dk_d (hk : ∀ a b, ky a = ky b → a = b) (m : List (κ × α)) (k : κ) (hy : kD (ky k) = y := by rfl) : DK (oD ky f m) y ((gv m k).map f) := by
  have h : DK (.d (m.map fun p => (ky p.1, f p.2))) (kD (ky k)) (gv (m.map fun p => (ky p.1, f p.2)) (ky k)) := .d
  rw [gv_map hk, hy] at h
  exact h
theorem dk_t (hk : ∀ a b, kt a = kt b → a = b) (m : List (κ × α)) (k : κ) (hy : kDs (kt k) = y := by rfl) : DK (oT kt f m) y ((gv m k).map f) := by
  have h : DK (.t (m.map fun p => (kt p.1, f p.2))) (kDs (kt k)) (gv (m.map fun p => (kt p.1, f p.2)) (kt k)) := .t
  rw [gv_map hk, hy] at h
  exact h
theorem dk_dget [Inhabited α] (hk : ∀ a b, ky a = ky b → a = b) (m : List (κ × α)) (k : κ) (h : (gv m k).isSome = true) (hy : kD (ky k) = y := by rfl) : DK (oD ky f m) y (some (f (gD m k))) := by
  have := dk_d (f := f) hk m k hy
  rw [gv_gD h] at this
  exact this
theorem dk_tget [Inhabited α] (hk : ∀ a b, kt a = kt b → a = b) (m : List (κ × α)) (k : κ) (h : (gv m k).isSome = true) (hy : kDs (kt k) = y := by rfl) : DK (oT kt f m) y (some (f (gD m k))) := by
  have := dk_t (f := f) hk m k hy
  rw [gv_gD h] at this
  exact this
theorem df_d (hk : ∀ a b, ky a = ky b → a = b) (m : List (κ × α)) (k : κ) (hy : kD (ky k) = y := by rfl) : DF (dD ky f m) y ((gv m k).map f) := by
  have h : DF (.dict ((m.map fun p => (ky p.1, f p.2)).map fun p => (kD p.1, p.2))) (kD (ky k)) (gv (m.map fun p => (ky p.1, f p.2)) (ky k)) := .d
  rw [gv_map hk, hy] at h
  exact h
theorem df_t (hk : ∀ a b, kt a = kt b → a = b) (m : List (κ × α)) (k : κ) (hn : m ≠ []) (hy : kDs (kt k) = y := by rfl) : DF (dDT kt f m) y ((gv m k).map f) := by
  have h : DF (.dict ((m.map fun p => (kt p.1, f p.2)).map fun p => (kDs p.1, p.2))) (kDs (kt k)) (gv (m.map fun p => (kt p.1, f p.2)) (kt k)) := .t (fun z => hn (List.map_eq_nil_iff.mp z))
  rw [gv_map hk, hy] at h
  exact h
theorem df_dget [Inhabited α] (hk : ∀ a b, ky a = ky b → a = b) (m : List (κ × α)) (k : κ) (h : (gv m k).isSome = true) (hy : kD (ky k) = y := by rfl) : DF (dD ky f m) y (some (f (gD m k))) := by
  have := df_d (f := f) hk m k hy
  rw [gv_gD h] at this
  exact this
theorem df_tget [Inhabited α] (hk : ∀ a b, kt a = kt b → a = b) (m : List (κ × α)) (k : κ) (h : (gv m k).isSome = true) (hy : kDs (kt k) = y := by rfl) : DF (dDT kt f m) y (some (f (gD m k))) := by
  have := df_t (f := f) hk m k (fun z => by rw [z] at h; cases h) hy
  rw [gv_gD h] at this
  exact this
theorem dp_d (hk : ∀ a b, ky a = ky b → a = b) (m : List (κ × α)) (k : κ) (v : α) (hl : m.length < 100000) {x : PyData} (hx : f v = x := by rfl) (hy : kD (ky k) = y := by rfl) : DP (oD ky f m) y x (oD ky f (pv m k v)) := by
  have h : DP (.d (m.map fun p => (ky p.1, f p.2))) (kD (ky k)) (f v) (.d (pv (m.map fun p => (ky p.1, f p.2)) (ky k) (f v))) := .d (by rw [List.length_map]; exact hl)
  rw [pv_map hk, hy, hx] at h
  exact h
theorem dp_t (hk : ∀ a b, kt a = kt b → a = b) (m : List (κ × α)) (k : κ) (v : α) (hl : m.length < 100000) {x : PyData} (hx : f v = x := by rfl) (hy : kDs (kt k) = y := by rfl) : DP (oT kt f m) y x (oT kt f (pv m k v)) := by
  have h : DP (.t (m.map fun p => (kt p.1, f p.2))) (kDs (kt k)) (f v) (.t (pv (m.map fun p => (kt p.1, f p.2)) (kt k) (f v))) := .t (by rw [List.length_map]; exact hl)
  rw [pv_map hk, hy, hx] at h
  exact h
theorem getD_map (f : α → PyData) (o : Option α) (z : α) : (o.map f).getD (f z) = f (o.getD z) := by cases o <;> rfl
end
section
variable {X : Cx} {tg e : Expr} {ρ ρ' ρ1 : En} {κ α : Type} {ky : κ → Key} {kt : κ → List Key} {f : α → PyData} {td : κ → PyData} {m : List (κ × α)}
theorem id_dk (ht : ∀ k, td k = kD (ky k)) (h : PD X e ρ (dD ky f m) ρ') : ID X tg e ρ ((m.map (·.1)).map td) (fun _ => True) none ρ' := by
  have q := id_dkeys (tg := tg) h
  rw [List.map_map] at q ⊢
  have e1 : (m.map ((fun p : Key × PyData => kD p.1) ∘ fun p => (ky p.1, f p.2))) = m.map (td ∘ fun p => p.1) := List.map_congr_left fun p _ => (ht p.1).symm
  rw [e1] at q
  exact q
theorem id_dkT (ht : ∀ k, td k = kDs (kt k)) (h : PD X e ρ (dDT kt f m) ρ') : ID X tg e ρ ((m.map (·.1)).map td) (fun _ => True) none ρ' := by
  have q := id_dkeysT (tg := tg) h
  rw [List.map_map] at q ⊢
  have e1 : (m.map ((fun p : List Key × PyData => kDs p.1) ∘ fun p => (kt p.1, f p.2))) = m.map (td ∘ fun p => p.1) := List.map_congr_left fun p _ => (ht p.1).symm
  rw [e1] at q
  exact q
theorem pn_listRg {a : Expr} {p p2 pos : Pos} {n : Int} (hc : X.calm = true) (hm : X.mg ("list" : Str) = none) (hm2 : X.mg ("range" : Str) = none) (ha : PD X a ρ (.int n) ρ1) (hn : 0 ≤ n ∧ n ≤ 100000) (hg : Gl X "list" := by rfl) (hg2 : Gl X "range" := by rfl)
    (na : starEach [a] X.env = (false, eval a X.env) :: starEach [] X.env := by rfl) (na2 : starEach [.Call (.Name "range" p2) [a] [] pos'] X.env = (false, eval (.Call (.Name "range" p2) [a] [] pos') X.env) :: starEach [] X.env := by rfl) :
    PN X (.Call (.Name "list" p) [.Call (.Name "range" p2) [a] [] pos'] [] pos) ρ (.l (((List.range n.toNat).map fun i : Nat => (i : Int)).map .int)) ρ1 :=
  PE_imp (pe_listRg hc hg hm (prg_1 hg2 hm2 ha na) na2) fun σ H Q ⟨C, F, se, q⟩ => ⟨C, F, se, fun v F1 H1 x1 e1 r1 => by
    refine ⟨n, rp_int r1, RgOk.of_le (by omega) (by omega) (by omega) (by omega), fun p hp => ?_⟩
    obtain ⟨h1, h2, h3, h4⟩ := e1.lay (o := .lst (rgV 0 n)) hp
    have e : rgV 0 n = (((List.range n.toNat).map fun i : Nat => (i : Int)).map V.int) := by
      unfold rgV
      rw [List.map_map, Int.sub_zero]
      refine List.map_congr_left fun i _ => ?_
      show V.int (0 + (i : Int)) = V.int (i : Int)
      rw [Int.zero_add]
    rw [e] at h1 ⊢
    exact q p F1 _ x1 h1 h2 h3 h4 ⟨_, upd_same, .ints _⟩⟩
end
/-! the first place of an item -/
section
variable {α : Type} [DecidableEq α]
theorem idx_at {v : α} {ns : List α} (h : v ∈ ns) : ns[ns.idxOf v]? = some v := by
  have h1 : ns.idxOf v < ns.length := List.idxOf_lt_length_of_mem h
  rw [List.getElem?_eq_getElem h1, List.getElem_idxOf h1]
theorem idx_no (ns : List α) (v : α) (j : Nat) (h : j < ns.idxOf v) (z : α) (hz : ns[j]? = some z) : z ≠ v := fun e => by
  subst e
  have hj := (List.getElem?_eq_some_iff.mp hz)
  obtain ⟨h1, h2⟩ := hj
  have h3 := List.not_of_lt_findIdx (p := (· == z)) (show j < ns.findIdx (· == z) from h)
  rw [h2] at h3
  simp at h3
end
theorem cutG_le {α : Type} (xs : List α) (lo hi : Option Int) : (cutG xs lo hi).length ≤ xs.length := by
  unfold cutG
  rw [List.length_take, List.length_drop]
  omega
end G

/-! GPair: two new objects given back as a tuple, unpacked into names that own them. -/
namespace G
open PySem PySem.Spec PyProof.Rows L2
section
variable {X : Cx} {W : WX} {e a b c : Expr} {es : List Expr} {p p1 p2 pos pos' : Pos} {ρ ρ' ρ1 ρ2 : En} {x u w : Str} {D : DE} {ds dds : List PyData} {dvs : List V} {j k : Nat}
theorem sd_retQ {kk : Nat} (i n : Nat) {c c2 : Ct} (hi : ρ[i]? = some (.o none c)) (hj : ρ[n]? = some (.o none c2)) (hij : i ≠ n) (h : D.rq c c2 ρ) (hN : X.N[i]? = some u := by rfl) (hv : Vis X.env.scope u := by first | exact Or.inl rfl | exact Or.inr (Or.inl rfl) | exact Or.inr (Or.inr rfl)) (hd : (u == ("__debug__" : Str)) = false := by decide) (hcd : (u == ("__classdict__" : Str)) = false := by decide)
    (hN2 : X.N[n]? = some w := by rfl) (hv2 : Vis X.env.scope w := by first | exact Or.inl rfl | exact Or.inr (Or.inl rfl) | exact Or.inr (Or.inr rfl)) (hd2 : (w == ("__debug__" : Str)) = false := by decide) (hcd2 : (w == ("__classdict__" : Str)) = false := by decide)
    (hs : starEach [.Name u p1, .Name w p2] X.env = (false, eval (.Name u p1) X.env) :: starEach [.Name w p2] X.env := by rfl) (hs2 : starEach [.Name w p2] X.env = (false, eval (.Name w p2) X.env) :: starEach [] X.env := by rfl) : SD X W (.Return (some (.Tuple [.Name u p1, .Name w p2] kk pos')) pos) ρ D :=
  PS_imp (ps_ret (pe_tup (pa_cons (pe_var hN hv hd hcd) (pa_cons (pe_var hN2 hv2 hd2 hcd2) pa_nil hs2) hs))) fun E σ H ⟨C, F, se, cv⟩ => by
    obtain ⟨l, a1, _, a3, a4⟩ := se.getO hi
    obtain ⟨l', b1, _, b3, b4⟩ := se.getO hj
    refine ⟨.ref l, a1, .ref l', b1, ?_⟩
    refine ⟨(show 2 ≤ sizeLine by decide), fun t ht => ?_⟩
    have g : Gr F H F (upd H t (.tup [.ref l, .ref l'])) := .side se.fr.ext ht
    exact cv.rq c c2 ρ t l l' F _ σ h (se.grow g) upd_same (se.own i l a4).1 (se.own n l' b4).1 (se.fresh i l c hi a1) (se.fresh n l' c2 hj b1) (fun z => hij (se.sep i n l a4 (by rw [z]; exact b4))) (a3.grow (.refl _) (g.h l)) (b3.grow (.refl _) (g.h l'))
theorem sd_unpackQ {kk : Nat} {p0 p3 p4 : Pos} {S : List PyData → Res → Prop} {c1 c2 : Ct} {f0 : Str} (i n : Nat) (cl : Cal X.prog X.w X.K X.mg X.base j f0 (spD X.K S) dvs) (hr : Room k X.A) (hdf : Dfs dvs dds) (ha : AD X (e :: es) ρ ds ρ1) (hS : S (ds ++ dds) (.own2 c1 c2)) (hij : i ≠ n) (h : D.nx ((ρ1.set i (.o none c1)).set n (.o none c2))) (hc : X.calm = true) (hNd : X.N.Nodup)
    (hk : j ≤ k := by decide) (hg : Gl X f0 := by rfl)
    (hdb : (f0 == ("__debug__" : Str)) = false := by decide) (he : starEach (e :: es) X.env = (false, eval e X.env) :: starEach es X.env := by rfl) (hpl : (backTo p3 (starEach es X.env)).any (·.1) = false := by rfl)
    (hi : X.N[i]? = some u := by rfl) (hx : Loc X.env.scope u := by first | exact Or.inl rfl | exact Or.inr rfl)
    (hf : X.fn u = true ∨ X.env.scope.names.lookup u = some .local := by first | exact .inl rfl | exact .inr rfl)
    (hi2 : X.N[n]? = some w := by rfl) (hx2 : Loc X.env.scope w := by first | exact Or.inl rfl | exact Or.inr rfl)
    (hf2 : X.fn w = true ∨ X.env.scope.names.lookup w = some .local := by first | exact .inl rfl | exact .inr rfl)
    (hs : swapsWithSole [.Tuple [.Name u p1, .Name w p2] kk p4] (.Call (.Name f0 p0) (e :: es) [] p3) pos.line X.env = pure false := by rfl) (hw : swappedStores [.Tuple [.Name u p1, .Name w p2] kk p4] (.Call (.Name f0 p0) (e :: es) [] p3) X.env = pure none := by rfl)
    (h1 : (assignEach [.Tuple [.Name u p1, .Name w p2] kk p4] X.env).map (·.2) = [assign (.Tuple [.Name u p1, .Name w p2] kk p4) X.env] := by rfl)
    (hn : (assignEach [.Name u p1, .Name w p2] X.env).length = 2 := by rfl) (hst : (assignEach [.Name u p1, .Name w p2] X.env).findIdx? (·.1) = none := by rfl)
    (hs3 : (assignEach [.Name u p1, .Name w p2] X.env).map (·.2) = assign (.Name u p1) X.env :: (assignEach [.Name w p2] X.env).map (·.2) := by rfl) (hs4 : (assignEach [.Name w p2] X.env).map (·.2) = assign (.Name w p2) X.env :: (assignEach [] X.env).map (·.2) := by rfl) :
    SD X W (.Assign [.Tuple [.Name u p1, .Name w p2] kk p4] (.Call (.Name f0 p0) (e :: es) [] p3) pos) ρ D := by
  obtain ⟨f, fd, ps, dd, fn, hm, kp, bi, vv⟩ := cl.ex
  refine PS_imp (ps_asg (pe_callSD fn (hr.mono hk) hg hm kp bi vv (fun σ => passE0 σ) ha hdb he hpl) (pg_tup hc (pgs_cons (pg_name hNd hi hx hf) (pgs_cons (pg_name hNd hi2 hx2 hf2) pgs_nil hs4) hs3) hn hst) hs hw h1) fun E σ H ⟨C, F, se, cv⟩ => ⟨C, F, se, fun vs F1 H1 x1 e1 r1 => ?_⟩
  refine ⟨F1, _, _, e1.fr.ext, r1.append hdf.rp, hS, fun t p q F2 H2 g ht fp fq hp hq np o1 o2 => ?_⟩
  refine ⟨t, _, rfl, SqT.of ht, rfl, .ref p, _, rfl, .ref q, _, rfl, rfl, ?_⟩
  have e2 := e1.grow g
  have e3 := e2.setOwn (i := i) fp (e1.fr.there p hp) (not_owns_new e1 hp) o1
  have e4 := e3.setOwn (i := n) fq (e1.fr.there q hq) (fun m om => by
    rcases own_set om with ⟨rfl, z, _⟩ | ⟨_, z⟩
    · cases z; exact np rfl
    · exact not_owns_new e1 hq m z) o2
  exact cv.nx _ F2 H2 _ h e4
end
theorem pickT {α : Type} [Inhabited α] (q : Pool) (ns : List α) (f : α → PyData) (h : 0 < ns.length) (h2 : ns.length < 100000) : SPick (pl q) [.list (ns.map f)] (f (gI ns (drawP q (ns.length : Int)).1)) (pl (drawP q (ns.length : Int)).2) := by
  have b := draw_bd q (n := (ns.length : Int)) (by omega)
  refine ⟨q, ns.map f, drawP q (ns.length : Int), rfl, rfl, ⟨by rw [List.length_map]; exact h, by rw [List.length_map]; exact h2⟩, by rw [List.length_map], ?_, rfl⟩
  have hk : (drawP q (ns.length : Int)).1.toNat < ns.length := by omega
  rw [List.getElem?_map, List.getElem?_eq_getElem hk]
  unfold gI
  rw [if_neg (by omega), getElem!_pos ns _ hk]; rfl
section
variable {X : Cx} {W : WX} {e a : Expr} {es : List Expr} {p pos pos' : Pos} {ρ ρ1 : En} {D : DE} {cls : Value} {fs : List (Str × PyData)} {dds : List PyData} {dvs : List V} {j k : Nat} {x : Str} {ds : List PyData}
/-- a, b = e, e raises -/
theorem sd_unpackX (he : PX X W e ρ cls fs ρ1) (h : D.ex cls fs ρ1) (hs : swapsWithSole [a] e pos.line X.env = pure false := by rfl) (hw : swappedStores [a] e X.env = pure none := by rfl)
    (h1 : (assignEach [a] X.env).map (·.2) = [assign a X.env] := by rfl) : SD X W (.Assign [a] e pos) ρ D := PS_imp (ps_asg he (⟨fun _ _ _ _ _ _ _ _ _ h => h.elim⟩ : PG X a (fun _ _ _ _ => False)) hs hw h1) fun E σ H ⟨C, F, se, cv⟩ => ⟨C, F, se, fun d F' H' _ e' r => cv.ex cls fs ρ1 d F' H' σ h e' r⟩
/-- a def that draws and always says True; what is left to draw from is forgotten -/
theorem pd_relT {S : List PyData → Prop} {R : List PyData → PyData → Prop} {o : Str} {p0 : Pos} {pa pb : Option Addr} {q : Pool} (i : Nat) (cl : Cal X.prog X.w X.K X.mg X.base j x (spP X.K S R) dvs) (hr : Room k X.A) (hd : Dfs dvs dds) (h0 : ρ[i]? = some (.o pa (.l ys))) (ha : AD X es ρ ds ρ1) (h1 : ρ1[i]? = some (.o pb (.l (pl q)))) (hS : S (ds ++ dds)) (hR : ∀ y, R (ds ++ dds) y → y = .bool true) (hk : j ≤ k := by decide) (hg : Gl X x := by rfl)
    (hN : X.N[i]? = some o := by rfl) (hv : Vis X.env.scope o := by first | exact Or.inl rfl | exact Or.inr (Or.inl rfl) | exact Or.inr (Or.inr rfl)) (hdo : (o == ("__debug__" : Str)) = false := by decide) (hcd : (o == ("__classdict__" : Str)) = false := by decide)
    (hdb : (x == ("__debug__" : Str)) = false := by decide) (he : starEach (.Name o p0 :: es) X.env = (false, eval (.Name o p0) X.env) :: starEach es X.env := by rfl) (hpl : (backTo pos (starEach es X.env)).any (·.1) = false := by rfl) :
    PD X (.Call (.Name x p) (.Name o p0 :: es) [] pos) ρ (.bool true) (ρ1.set i .un) :=
  PE_imp (pp_call (q := q) i cl hr hd h0 ha h1 hS hk hg hN hv hdo hcd hdb he hpl) fun σ H Q ⟨C, F, se, w⟩ => ⟨C, F, se, fun v F1 H1 y ρ' hr1 x1 e1 r1 => by
    obtain ⟨hy, q', rfl⟩ := hr1
    have ey := hR y hy
    subst ey
    refine w v F1 H1 x1 (e1.le ?_) r1
    have : ∀ (n : Nat) (r : En) (s : Sl), Le (r.set n .un) (r.set n s) := fun n r s => by
      induction r generalizing n with
      | nil => exact .nil
      | cons a r ih =>
        cases n with
        | zero => exact .un (.refl _)
        | succ n => exact .eq (ih n)
    exact this i ρ1 _⟩
end
theorem lo_up (ns : List Int) : dL PyData.int ns = dL (dO PyData.int) (ns.map some) := by
  show PyData.list _ = PyData.list _
  rw [List.map_map]; rfl
/-! ### relations, further -/
section
variable {X : Cx} {W : WX} {e a b c : Expr} {es : List Expr} {p p1 pos pos' : Pos} {ρ ρ1 ρ2 : En} {D : DE} {dds : List PyData} {dvs : List V} {j k : Nat} {x : Str} {ds ys : List PyData} {y : PyData}
def tAR (K : PySem.W.Frag) (ρ : En) (R : List PyData → En → Prop) : TA := fun σ H Q => ∃ C F, SE K C F H σ ρ ∧ ∀ vs F' H' xs ρ', R xs ρ' → Ex F F' → SE K C F' H' σ ρ' → RpA K F' vs xs → Q vs H'
abbrev AR (X : Cx) (es : List Expr) (ρ : En) (R : List PyData → En → Prop) : Prop := PA X es (tAR X.K ρ R)
theorem PA_ex {ι : Type} {es : List Expr} {t : ι → TA} (h : ∀ i, PA X es (t i)) : PA X es (fun σ H Q => ∃ i, t i σ H Q) := ⟨fun pos pins s σ H Q I ⟨i, q⟩ => (h i).run pos pins s σ H Q I q⟩
theorem pp_of (h : PD X e ρ y ρ1) : PP X e ρ (fun z r => z = y ∧ r = ρ1) := PE_imp h fun σ H Q ⟨C, F, se, q⟩ => ⟨C, F, se, fun v F1 H1 x1 e1 r1 => q v F1 H1 y ρ1 ⟨rfl, rfl⟩ x1 e1 r1⟩
theorem ar_nil : AR X [] ρ (fun xs r => xs = [] ∧ r = ρ) := PA_imp pa_nil fun σ H Q ⟨C, F, se, q⟩ => q [] F H [] ρ ⟨rfl, rfl⟩ (.refl _) se .nil
theorem ar_cons {R1 : PyData → En → Prop} {R2 : PyData → En → List PyData → En → Prop} (h : PP X e ρ R1) (hr : ∀ y r, R1 y r → AR X es r (R2 y r)) (hs : starEach (e :: es) X.env = (false, eval e X.env) :: starEach es X.env := by rfl) : AR X (e :: es) ρ (fun xs r => ∃ y t r1, xs = y :: t ∧ R1 y r1 ∧ R2 y r1 t r) := by
  have hp : PA X es (fun σ H Q => ∃ q : { q : PyData × En // R1 q.1 q.2 }, tAR X.K q.1.2 (R2 q.1.1 q.1.2) σ H Q) := PA_ex fun q => hr q.1.1 q.1.2 q.2
  exact PA_imp (pa_cons h hp hs) fun σ H Q ⟨C, F, se, q⟩ => ⟨C, F, se, fun v F1 H1 y r1 h1 x1 e1 rp1 => ⟨⟨(y, r1), h1⟩, C, F1, e1, fun vs F2 H2 t r2 h2 x2 e2 rp2 => q (v :: vs) F2 H2 (y :: t) r2 ⟨y, t, r1, rfl, h1, h2⟩ (x1.trans x2) e2 (.cons (rp1.mono x2) rp2)⟩⟩
theorem pp_lst {R : List PyData → En → Prop} (h : AR X es ρ R) (hl : es.length ≤ 100000 := by exact Nat.le_of_ble_eq_true rfl) (hlen : ∀ xs r, R xs r → xs.length ≤ 100000) : PP X (.List es pos) ρ (fun y r => ∃ xs, y = .list xs ∧ R xs r) := PE_imp (pe_lst h) fun σ H Q ⟨C, F, se, q⟩ =>
  ⟨C, F, se, fun vs F1 H1 xs r hR x1 e1 rp => ⟨by rw [rp.length]; exact line_of (hlen xs r hR), fun p hp => by
    obtain ⟨a, b, c, d⟩ := e1.lay (o := .lst vs) hp
    exact q (.ref p) (upd F1 p (.lst vs)) _ (.list xs) r ⟨xs, rfl, hR⟩ (x1.trans (.new b)) (a.frz b upd_same c d) (.lst (SqL.of upd_same) (rp.mono (.new b)))⟩⟩
theorem pp_callO {S : List PyData → List PyData → PyData → List PyData → Prop} {R : List PyData → En → Prop} {o : Str} {p0 : Pos} {pa : Option Addr} (i : Nat) (cl : Cal X.prog X.w X.K X.mg X.base j x (spO X.K S) dvs) (hr : Room k X.A) (hd : Dfs dvs dds) (h0 : ρ[i]? = some (.o pa (.l ys))) (ha : AR X es ρ R) (hS : ∀ ds r1, R ds r1 → ∃ pb xs y xs', r1[i]? = some (.o pb (.l xs)) ∧ S xs (ds ++ dds) y xs') (hk : j ≤ k := by decide) (hg : Gl X x := by rfl)
    (hN : X.N[i]? = some o := by rfl) (hv : Vis X.env.scope o := by first | exact Or.inl rfl | exact Or.inr (Or.inl rfl) | exact Or.inr (Or.inr rfl)) (hdo : (o == ("__debug__" : Str)) = false := by decide) (hcd : (o == ("__classdict__" : Str)) = false := by decide)
    (hdb : (x == ("__debug__" : Str)) = false := by decide) (he : starEach (.Name o p0 :: es) X.env = (false, eval (.Name o p0) X.env) :: starEach es X.env := by rfl) (hpl : (backTo pos (starEach es X.env)).any (·.1) = false := by rfl) :
    PP X (.Call (.Name x p) (.Name o p0 :: es) [] pos) ρ (fun y r => ∃ ds r1 pb xs xs', R ds r1 ∧ r1[i]? = some (.o pb (.l xs)) ∧ S xs (ds ++ dds) y xs' ∧ r = r1.set i (.o pb (.l xs'))) := by
  obtain ⟨f, fd, ps, dd, fn, hm, kp, bi, vv⟩ := cl.ex
  refine PE_imp (pe_callSD fn (hr.mono hk) hg hm kp bi vv (fun σ => passE0 σ) (pa_cons (pe_var hN hv hdo hcd) ha he) hdb he hpl) fun σ H Q ⟨C, F, se, q⟩ => ?_
  obtain ⟨l, a1, _, _, a4⟩ := se.getO h0
  refine ⟨.ref l, a1, C, F, se, fun vs F1 H1 ds r1 hR x1 e1 rp => ?_⟩
  obtain ⟨pb, xs, y, xs', h1, h2⟩ := hS ds r1 hR
  obtain ⟨l', b1, b2, ⟨us, b3, b5⟩, b4⟩ := e1.getO h1
  rw [a1] at b1
  cases b1
  refine ⟨F1, l, vs ++ dvs, us, xs, ds ++ dds, y, xs', rfl, e1.fr.ext, (e1.own i l b4).1, b3, b5, rp.append hd.rp, h2, fun v F2 H2 us' g h3 ru rv => ?_⟩
  exact q v F2 H2 y _ ⟨ds, r1, pb, xs, xs', hR, h1, h2, rfl⟩ (x1.trans g.f) (e1.wrg g h1 a1 ⟨us', h3, ru⟩) rv
/-- an `and` whose right side uses the pool up -/
theorem pd_andU {a b : Expr} {rest : List Expr} {k1 k2 : Bool} (ha : PD X a ρ (.bool k1) ρ1) (hb : k1 = true → PD X (.BoolOp .And (b :: rest) pos) ρ1 (.bool k2) ρ2) (hl : Le ρ2 ρ1 := by repeat (first | exact Le.nil | apply Le.eq | apply Le.un)) : PD X (.BoolOp .And (a :: b :: rest) pos) ρ (.bool (k1 && k2)) ρ2 := by
  cases k1 with
  | true => exact pd_and_t ha (hb rfl)
  | false => exact PE_imp (pd_and_f ha) fun σ H Q ⟨C, F, se, w⟩ => ⟨C, F, se, fun v F1 H1 x1 e1 r1 => w v F1 H1 x1 (e1.le hl) r1⟩
/-- a pick of two that are told and one that is drawn -/
theorem pp_pick3 {R : PyData → En → Prop} {o : Str} {p0 : Pos} {pa : Option Addr} {x1 x2 : PyData} (i : Nat) (cl : Cal X.prog X.w X.K X.mg X.base j "_law_pick" (spO X.K SPick) []) (hr : Room k X.A) (h0 : ρ[i]? = some (.o pa (.l ys))) (h1 : PD X a ρ x1 ρ1) (h2 : PD X b ρ1 x2 ρ2) (h3 : PP X c ρ2 R) (hq : ∀ y r, R y r → ∃ pb q, r[i]? = some (.o pb (.l (pl q)))) (hk : j ≤ k := by decide) (hg : Gl X "_law_pick" := by rfl)
    (hN : X.N[i]? = some o := by rfl) (hv : Vis X.env.scope o := by first | exact Or.inl rfl | exact Or.inr (Or.inl rfl) | exact Or.inr (Or.inr rfl)) (hdo : (o == ("__debug__" : Str)) = false := by decide) (hcd : (o == ("__classdict__" : Str)) = false := by decide)
    (he : starEach (.Name o p0 :: [.List [a, b, c] p1]) X.env = (false, eval (.Name o p0) X.env) :: starEach [.List [a, b, c] p1] X.env := by rfl) (hpl : (backTo pos (starEach [.List [a, b, c] p1] X.env)).any (·.1) = false := by rfl)
    (hs1 : starEach [a, b, c] X.env = (false, eval a X.env) :: starEach [b, c] X.env := by rfl) (hs2 : starEach [b, c] X.env = (false, eval b X.env) :: starEach [c] X.env := by rfl) (hs3 : starEach [c] X.env = (false, eval c X.env) :: starEach [] X.env := by rfl) (hs4 : starEach [.List [a, b, c] p1] X.env = (false, eval (.List [a, b, c] p1) X.env) :: starEach [] X.env := by rfl) :
    PP X (.Call (.Name "_law_pick" p) (.Name o p0 :: [.List [a, b, c] p1]) [] pos) ρ (fun y r => ∃ z r1 pb xs q', R z r1 ∧ r1[i]? = some (.o pb (.l xs)) ∧ (y = x1 ∨ y = x2 ∨ y = z) ∧ r = r1.set i (.o pb (.l (pl q')))) := by
  have hl := pp_lst (pos := p1) (ar_cons (pp_of h1) (R2 := fun _ _ xs r => ∃ y t r1, xs = y :: t ∧ (y = x2 ∧ r1 = ρ2) ∧ ∃ y' t' r2, t = y' :: t' ∧ R y' r2 ∧ (t' = [] ∧ r = r2)) (fun y r hy => by
    obtain ⟨_, rfl⟩ := hy
    exact ar_cons (pp_of h2) (R2 := fun _ _ t r => ∃ y' t' r2, t = y' :: t' ∧ R y' r2 ∧ (t' = [] ∧ r = r2)) (fun y r hy => by
      obtain ⟨_, rfl⟩ := hy
      exact ar_cons h3 (R2 := fun _ r2 t' r => t' = [] ∧ r = r2) (fun y r hy => ar_nil) hs3) hs2) hs1) (hlen := fun xs r h => by
      obtain ⟨y, t, r1, rfl, _, y2, t2, r2, rfl, _, y3, t3, r3, rfl, _, rfl, _⟩ := h
      simp)
  have ha := ar_cons hl (R2 := fun _ r1 t r => t = [] ∧ r = r1) (fun y r hy => ar_nil) hs4
  refine PE_imp (pp_callO i cl hr .nil h0 ha (fun ds r1 hR => ?_) hk hg hN hv hdo hcd (by decide) he hpl) fun σ H Q ⟨C, F, se, w⟩ => ⟨C, F, se, fun v F1 H1 y r hR x1' e1 rp => w v F1 H1 y r ?_ x1' e1 rp⟩
  · obtain ⟨y, t, r2, rfl, ⟨xs, rfl, y1, t1, r3, rfl, ⟨rfl, rfl⟩, y2, t2, r4, rfl, ⟨rfl, rfl⟩, y3, t3, r5, rfl, h5, rfl, rfl⟩, rfl, rfl⟩ := hR
    obtain ⟨pb, q, h6⟩ := hq _ _ h5
    have b := draw_bd q (n := 3) (by decide)
    have : ∃ z, ([y1, y2, y3] : List PyData)[(drawP q 3).1.toNat]? = some z := ⟨_, List.getElem?_eq_getElem (by simp; omega)⟩
    obtain ⟨z, hz⟩ := this
    exact ⟨pb, pl q, z, _, h6, q, [y1, y2, y3], drawP q 3, rfl, rfl, ⟨by simp, by simp⟩, rfl, hz, rfl⟩
  · obtain ⟨ds, r1, pb, xs, xs', hds, h1, hS, rfl⟩ := hR
    obtain ⟨y', t, r2, rfl, ⟨xs2, rfl, y1, t1, r3, rfl, ⟨rfl, rfl⟩, y2, t2, r4, rfl, ⟨rfl, rfl⟩, y3, t3, r5, rfl, h5, rfl, rfl⟩, rfl, rfl⟩ := hds
    obtain ⟨p', rows, rr, rfl, hrows, _, _, hy, rfl⟩ := hS
    have e : rows = [y1, y2, y3] := by
      have : ([PyData.list [y1, y2, y3]] ++ [] : List PyData) = [.list rows] := hrows
      simpa using this.symm
    subst e
    have hm := List.mem_of_getElem? hy
    simp only [List.mem_cons, List.not_mem_nil, or_false] at hm
    exact ⟨y3, r1, pb, _, rr.2, h5, h1, hm, rfl⟩
end
end G

/-! GNot: an own exception whose __init__ says super().__init__(f) and self.f = f. -/
namespace G
open PySem PySem.Spec PyProof.Rows L2 PySem.Calls
/-- the __init__'s text -/
abbrev initB (f : Str) (p0 p1 p2 p3 p4 p5 p6 p7 p8 p9 : Pos) : List Stmt := [.Expr (.Call (.Attribute (.Call (.Name "super" p0) [] [] p1) "__init__" p2) [.Name f p3] [] p4) p5, .Assign [.Attribute (.Name "self" p6) f p7] (.Name f p8) p9]
/-- what the top has written of it -/
structure InitF (P : Program) (K : PySem.W.Frag) (C fI : Addr) (f : Str) (fd : FuncData) : Prop where
  lk : ∃ oc od osl, K.lookup fI = some ⟨oc, od, .func fd, osl⟩
  body : ∃ p0 p1 p2 p3 p4 p5 p6 p7 p8 p9, fd.body = .stmts (initB f p0 p1 p2 p3 p4 p5 p6 p7 p8 p9) ∧ (p2.endLine == p4.line) = true
  par : ∃ a1 q1 a2 q2, fd.params = ⟨[], [⟨"self", a1, q1⟩, ⟨f, a2, q2⟩], none, [], [], none, []⟩
  dfl : fd.defaults = .none
  code : ∃ cc oc od osl vs file tf, fd.code = .ref cc ∧ K.lookup cc = some ⟨oc, od, .fields vs, osl⟩ ∧ vs[2]? = some (.str file tf) ∧ (P.main.file == file) = true
  codeq : PySem.W.codeIn K fd.code fd.qualname = true
  clo : ∃ c oc od osl, fd.closure = [(("__class__" : Str), c)] ∧ K.lookup c = some ⟨oc, od, .cell (some (.ref C)), osl⟩
  glob : fd.globals = mainGlobals
  blt : fd.builtins = builtinsNs
  kind : fd.scope.kind = .function
  co : fd.scope.isCoroutine = false
  gen : fd.scope.isGenerator = false
  self_ : fd.scope.names.lookup ("self" : Str) = some .local
  f_ : fd.scope.names.lookup f = some .local
  sup : fd.scope.names.lookup ("super" : Str) = some .globalImplicit
  cls : fd.scope.names.lookup ("__class__" : Str) = some .free
  nocell : ∀ y ∈ fd.scope.names, y.2 ≠ .cell
  free : ∀ y ∈ fd.scope.names, y.2 = .free → y.1 = ("__class__" : Str)
  fne : f ≠ "self" ∧ f ≠ "__class__" ∧ (f == ("__debug__" : Str)) = false ∧ (f == ("__classdict__" : Str)) = false
/-- what the class keeps -/
structure SupC (P : Program) (K : PySem.W.Frag) (mg : Str → Option Value) (C : Addr) (f : Str) : Prop where
  oex : OexC K C
  sup : PySem.W.ks_superIn K C C "__init__" = some (some (.builtin "ValueError.__init__"))
  opq : PySem.W.nsIn K cStatics "thirdparty.any" = some none
  isV : PySem.W.subIn K (.ref C) (.type "ValueError") = some true
  noF : PySem.W.findIn K (.ref C) f = some none
  refl : PySem.W.subIn K (.ref C) (.ref C) = some true
  noS : mg ("super" : Str) = none
  top : (P.main.scope.names.lookup ("super" : Str)).isSome = false
def spIni (C : Addr) (f : Str) : Sp := fun vs H Q E => ∃ a v, vs = [.ref a, v] ∧ H a = some (exo a C none) ∧ ∀ d, H d = none → d ≠ a → Q .non (upd (upd H d (exd d [(f, v)])) a (exo a C (some d)))
theorem super_eval {env : Env} {o : Expr} {name x : Str} {apos pos p3 : Pos} (h : (apos.endLine == pos.line) = true) : eval (.Call (.Attribute o name apos) [.Name x p3] [] pos) env = (do
      let ov ← attributeBase o name env (eval o env)
      standAt apos.atName
      let (f, first) ← holding [ov] (getMethod ov name (do return (← importBound o env).getD true))
      callWith pos f first (backTo pos (starEach [.Name x p3] env)) []) := by
  show (do
    let ov ← attributeBase o name env (eval o env)
    standAt apos.atName
    methodCall o name apos pos env ov 1 (backTo pos (starEach [.Name x p3] env)) []) = _
  have form : methodCallForm 1 (backTo pos (starEach [.Name x p3] env)) [] = true := rfl
  unfold methodCall methodCallPos calleeOf
  rw [form]
  simp only [h, Bool.not_true, Bool.false_or, if_true, pure_bind]
section
variable {P : Program} {w : World} {K : PySem.W.Frag} {mg : Str → Option Value} {base : Heap} {CX : CXT} {C fI : Addr} {f : Str} {fd : FuncData}
theorem self_look {f : Str} {u : Value} {a : Addr} (h : f ≠ "self") : (([("self" : Str), f].zip [Value.ref a, u]).reverse).lookup ("self" : Str) = some (.ref a) := by
  have q : (("self" : Str) == f) = false := by rw [beq_eq_false_iff_ne]; exact fun z => h z.symm
  show (match (("self" : Str) == f) with | true => some u | false => [(("self" : Str), Value.ref a)].lookup ("self" : Str)) = _
  rw [q]; rfl
/-- the call's context -/
def cxIni (P : Program) (w : World) (K : PySem.W.Frag) (mg : Str → Option Value) (base : Heap) (f : Str) (fd : FuncData) (fI : Addr) (A : Around) (outer : List Env) (s : Shared) (H : Hp) (xe : Value → Shared → Prop) : Cx where
  prog := P
  w := w
  K := K
  mg := mg
  base := base
  A := A.deeper (callEnv fd s.heap.objs.size fI)
  N := [("self" : Str), f]
  s_0 := s
  H_0 := H
  env := callEnv fd s.heap.objs.size fI
  outer := outer
  stack := callEnv fd s.heap.objs.size fI :: outer
  ex := []
  calm := true
  fn := fun _ => false
  pn := []
  xe := xe
theorem init_inv (I : InitF P K C fI f fd) {A : Around} {outer : List Env} {s : Shared} {H : Hp} {a : Addr} {v : V} {u : Value} {xe : Value → Shared → Prop} {h₀ : Heap} {t : Nat} (hd : A.handled = none) (e0 : Env0 P w K mg base A outer s H) (rv : RelV v u)
    (hn : h₀.Ns s.heap.objs.size (fun x => [(f, u), (("self" : Str), Value.ref a)].lookup x)) (hk : ∀ b o, s.heap.get? b = some o → h₀.get? b = some o) :
    Inv (cxIni P w K mg base f fd fI A outer s H xe) [] (L2.start [("self" : Str), f] [.ref a, v]) H { s with heap := h₀, toks := t } := by
  obtain ⟨c, oc, od, osl, hc, hcl⟩ := I.clo
  have KX : K.In s.heap := e0.mod.kin.keeps fun b o e => (e0.bs b o e).1
  have lc : ∀ x c', (callEnv fd s.heap.objs.size fI).cells.lookup x = some c' → x = ("__class__" : Str) ∧ c' = c := fun x c' e => by
    have e' : fd.closure.lookup x = some c' := e
    rw [hc] at e'
    have e2 : (match x == ("__class__" : Str) with | true => some c | false => ([] : List (Str × Addr)).lookup x) = some c' := e'
    cases q : (x == ("__class__" : Str)) with
    | true => rw [q] at e2; cases e2; exact ⟨beq_iff_eq.mp q, rfl⟩
    | false => rw [q] at e2; cases e2
  have noA : ∀ b : Addr, b ∉ (cxIni P w K mg base f fd fI A outer s H xe).ex := fun b z => absurd (show b ∈ ([] : List Addr) from z) (by simp)
  refine ⟨⟨e0.mod, I.kind, I.glob, I.blt, Nat.le_refl _, fun y z c' h1 h2 => ?_, fun y hy => ?_, fun y c' h _ => ?_, fun _ => hd, Around.frames_deeper e0.frames, .inr ⟨rfl, ?_⟩, fun b z => absurd z (noA b), e0.bs, e0.bsz, fun b _ _ => noA b, fun b z => absurd z (noA b), e0.funs, e0.frf⟩,
    rfl, e0.bare, Un.kept hk, ⟨_, hn, fun i y v' h1 h2 h3 => ?_⟩, fun y c' h => ?_, e0.hok.fresh (Nat.le_refl _), fun y c' h => ?_, fun p hp => absurd (show p ∈ ([] : List (Addr × Obj)) from hp) (by simp), e0.hok.kept hk, rfl⟩
  · rw [(lc y c' h1).1, (lc z c' h2).1]
  · have hy : fd.scope.names.lookup y = some .cell ∨ fd.scope.names.lookup y = some .free := hy
    rcases hy with hy | hy
    · exact absurd rfl (I.nocell _ (PySem.mem_of_lookup hy))
    · have : y = ("__class__" : Str) := I.free _ (PySem.mem_of_lookup hy) rfl
      subst this
      exact ⟨c, by show fd.closure.lookup _ = _; rw [hc]; rfl⟩
  · cases h
  · rfl
  · match i, h1, h2 with
    | 0, h1, h2 =>
      cases h1; cases h2
      exact ⟨_, rfl, .inl ⟨I.self_, by
        have q : (("self" : Str) == f) = false := by rw [beq_eq_false_iff_ne]; exact fun z => I.fne.1 z.symm
        show (match (("self" : Str) == f) with | true => some u | false => [(("self" : Str), Value.ref a)].lookup ("self" : Str)) = _
        rw [q]; rfl⟩⟩
    | 1, h1, h2 =>
      cases h1; cases h2
      exact ⟨u, rv, .inl ⟨I.f_, by
        show (match (f == f) with | true => some u | false => _) = _
        rw [beq_self_eq_true]⟩⟩
    | (n + 2), h1, _ => cases h1
  · obtain ⟨rfl, rfl⟩ := lc y c' h
    exact ⟨_, _, hk _ _ (KX _ _ hcl), rfl⟩
  · obtain ⟨rfl, rfl⟩ := lc y c' h
    exact (e0.bs _ _ (e0.mod.kin _ _ hcl)).2
open PySem.W in
theorem init_fn (I : InitF P K C fI f fd) (S : SupC P K mg C f) : FnOk P w K mg base CX 1 fI fd [("self" : Str), f] (spIni C f) := by
  refine ⟨fun vs H Q E h => by obtain ⟨a, v, rfl, _⟩ := h; rfl, fun A outer s H args us vs Q E hr e0 hb r hsp => ?_⟩
  obtain ⟨a, v, rfl, ea, q⟩ := hsp
  obtain ⟨u, rfl, rv⟩ : ∃ u, us = [.ref a, u] ∧ RelV v u := by
    cases r with
    | cons ra r2 =>
      cases r2 with
      | cons rb r3 =>
        cases r3
        exact ⟨_, by rw [show _ = Value.ref a from ra], rb⟩
  obtain ⟨oc, od, osl, lk⟩ := I.lk
  obtain ⟨p0, p1, p2, p3, p4, p5, p6, p7, p8, p9, hbody, hline⟩ := I.body
  have KX : K.In s.heap := e0.mod.kin.keeps fun b o e => (e0.bs b o e).1
  have lim : s.heap.NoLimit := e0.mod.nolimit.keeps fun b o e => (e0.bs b o e).1
  refine ks_codeAny_call_defAt hr.depth (KX _ _ lk) rfl lim (PySem.W.codeRec_of KX I.codeq) hbody hb I.nocell (fun x hx => ?_) (fun h₀ hn hk => ?_) I.co I.gen I.kind
  · have : x = (("self" : Str), Value.ref a) ∨ x = (f, u) := by
      have hx' : x ∈ [(("self" : Str), Value.ref a), (f, u)] := hx
      simpa using hx'
    rcases this with rfl | rfl
    · exact I.self_
    · exact I.f_
  · have J := init_inv (P := P) (w := w) (K := K) (mg := mg) (base := base) (xe := fun _ _ => False) (t := s.toks + ([("self" : Str), f].zip [Value.ref a, u]).length) I hr.hd e0 rv hn hk
    obtain ⟨nm, qn, N, bs, bm, sn, sub, ab, col, dd, k0, k1, k2, k3, k5, hCl, hbm⟩ := S.oex.cls
    obtain ⟨a1, q1, a2, q2, hpar⟩ := I.par
    obtain ⟨cc, occ, odc, oslc, vs, file, tf, hco, hcc, hvs, hfile⟩ := I.code
    obtain ⟨cl, ocl, odl, osll, hclo, hcl⟩ := I.clo
    have KJ := J.kIn
    have hC := KJ _ _ hCl
    have hcs : PySem.W.clsIn K C = some { name := nm, bases := bs, mro := .ref C :: bm, ns := N, qualname := qn, hasDict := true, slotNames := sn, subclasses := sub, abstract := ab, collection := col, hasDel := false } := by unfold PySem.W.clsIn; rw [hCl] <;> rfl
    refine ks_wpAt_execs_cons (ks_wpAt_Expr_any (hi := ?hi) (ks_wpAt_MethodCall (he := super_eval hline) (ks_wpAt_super_base (attr := "__init__") (f := fI) (cc := cc) (I.sup) (I.cls) (by decide) rfl (hk _ _ (KX _ _ lk)) rfl (ar := ⟨"self", a1, q1⟩) (by rw [hpar]; rfl) hco (KJ _ _ hcc) rfl hvs hfile S.top ?_)))
    case hi => unfold interactive; rw [show (callEnv fd s.heap.objs.size fI).scope.kind = .function from I.kind]; rfl
    rw [loadName_read (show (callEnv fd s.heap.objs.size fI).scope.kind = .function from I.kind) (show (callEnv fd s.heap.objs.size fI).kindOf ("super" : Str) = some .globalImplicit from I.sup)]
    obtain ⟨mb, hb1, hb2⟩ := J.mod.blt
    refine Calls.loadGlobal_builtin (mg := mg) (mb := mb) (by rw [show (callEnv fd s.heap.objs.size fI).globals = mainGlobals from I.glob]; exact J.mod.glob.keeps J.bk) S.noS (by rw [show (callEnv fd s.heap.objs.size fI).builtins = builtinsNs from I.blt]; exact hb1.keeps J.bk) ((hb2 "super" (by decide)).trans (by show _ = some (Value.type "super"); decide +kernel)) ?_
    refine ⟨rfl, ?_⟩
    refine wpAny_loadName_free (c := cl) (v := .ref C) (show (callEnv fd s.heap.objs.size fI).scope.kind = .function from I.kind) I.cls (by show fd.closure.lookup _ = _; rw [hclo]; rfl) ⟨_, KJ _ _ hcl, rfl⟩ ?_
    refine wpAny_loadName_local (show (callEnv fd s.heap.objs.size fI).scope.kind = .function from I.kind) I.self_ hn (v := .ref a) ?_ ?_
    · exact self_look I.fne.1
    refine ks_wpAny_isType_cls hC rfl ?_
    refine ⟨rfl, ?_⟩
    obtain ⟨t1, hex⟩ := exo_at J.hok ea
    refine ks_wpAny_call_super hC rfl hex rfl (fun c z => by cases z) (looks_subIn KJ S.refl) (fun h1 hso k1 => ?_)
    have J1 := J.kept (t' := s.toks + ([("self" : Str), f].zip [Value.ref a, u]).length) k1
    have hex1 := k1 _ _ hex
    have IA : InstAt h1 a ({ cls := .ref C, dict := none, data := .fields #[.ref t1, .none, .none, .none, .bool false, .none] } : Obj) C none := ⟨hex1, rfl, rfl, trivial⟩
    have K1 : K.In h1 := J1.kIn
    refine kxs_getMethod kxs_ValueError hso (looks_opaque K1 S.opq) (l₀ := .ref C :: bm) (fun A Q E s k q => wpAny_bind ((looks_clsIn K1 hcs) A _ E s k (wpAny_pure q))) rfl K1 (by have := S.sup; unfold ks_superIn at this; rw [hcs] at this; exact this) (IA.type.andThen (looks_subIn K1 S.isV)) (ks_ne K1 IA hcs) (by decide) ?_
    have J2 := J1.kept (t' := s.toks + ([("self" : Str), f].zip [Value.ref a, u]).length + 1) (h' := h1.push (kxs_mw "ValueError.__init__" a)) fun b o e => Heap.get?_push_of_some _ e
    have J2p : L2.Inv (cxIni P w K mg base f fd fI A outer s H fun _ _ => False) [(h1.objs.size, kxs_mw "ValueError.__init__" a)] (L2.start [("self" : Str), f] [.ref a, v]) H { s with heap := h1.push (kxs_mw "ValueError.__init__" a), toks := s.toks + ([("self" : Str), f].zip [Value.ref a, u]).length + 1 } :=
      ⟨J2.ok, J2.os, J2.bare, J2.base, J2.loc, J2.cell, J2.free, J2.freeC, fun p hp => by
        have hp' : p ∈ [(h1.objs.size, kxs_mw "ValueError.__init__" a)] := hp
        rw [List.mem_singleton] at hp'
        subst hp'
        exact ⟨Heap.get?_push_at rfl rfl, J1.hok.fresh (Nat.le_refl _), Nat.ne_of_gt J1.lt, J1.nofs (Nat.le_refl _), fun v z => by cases z⟩, J2.hok, J2.len⟩
    show wpAny _ _ (callWith p4 (Value.ref h1.objs.size) [] (backTo p4 (starEach [Expr.Name f p3] (callEnv fd s.heap.objs.size fI))) []) _ _ _
    refine kxs_callWith (i := "ValueError.__init__") (x := a) rfl ?_
    have ar := pa_cons (X := cxIni P w K mg base f fd fI A outer s H fun _ _ => False) (pe_var (i := 1) (x := f) (pos := p3) rfl (Or.inl I.f_) I.fne.2.2.1 I.fne.2.2.2) pa_nil rfl
    refine evalArgs_plain (wpAny_mono (ar.run p4 _ _ _ H (fun vs H' => vs = [v] ∧ H' = H) J2p ⟨v, rfl, rfl, rfl⟩) (fun us s1 hs => ?_) fun _ _ z => z.elim)
    obtain ⟨vs1, H1, J3, rr, hv1, hH1⟩ := hs
    rw [hH1] at J3
    rw [hv1] at rr
    obtain ⟨u1, rfl, rv1⟩ : ∃ u1, us = [u1] ∧ RelV v u1 := by
      cases rr with
      | cons ra r2 =>
        cases r2
        exact ⟨_, rfl, ra⟩
    have hmw : KxsAt "ValueError.__init__" h1.objs.size a s1.heap := (J3.pin (h1.objs.size, kxs_mw "ValueError.__init__" a) (by simp)).1
    refine ⟨hmw, ?_⟩
    obtain ⟨t2, hex2⟩ := exo_at J3.hok ea
    have hC3 := J3.kIn _ _ hCl
    refine wpAny_call (codeAny_of_tree ?_)
    show wpAny _ _ (callAny (.ref h1.objs.size) ⟨[u1], []⟩) _ _ _
    simp only [callAny]
    refine wpAny_bind (wpAny_load hmw ?_)
    simp only [kxs_mw, show (Value.type "method-wrapper" == Value.type "method" || Value.type "method-wrapper" == Value.type "builtin_function_or_method" || Value.type "method-wrapper" == Value.type "method-wrapper") = true by decide, if_true]
    refine KFB.if_so (by decide) ?_
    obtain ⟨hp3, g3, d3, t3, os3⟩ := s1
    refine wpAny_bind (check_bound_init PySem.F.excBase_ValueError.toExcCallFacts hC3 hex2 rfl ?_)
    refine wpAny_bind (wpAny_pure (wpAny_pure ?_))
    refine ⟨plainId_quiet PySem.F.excBase_ValueError.init.plain _, codeAny_builtin PySem.F.excBase_ValueError.initEntry ?_⟩
    refine exc_init_tree (cls := .ref C) (t0 := t2) (dv := none) (c2 := .none) (c3 := .none) (b4 := .bool false) hex2 (by show 1 ≤ sizeLine; decide) (fun h' k' e' _ => ?_)
    have J3' : L2.Inv (cxIni P w K mg base f fd fI A outer s H fun _ _ => False) [] (L2.start [("self" : Str), f] [.ref a, v]) H ⟨hp3, g3, d3, t3, os3⟩ := ⟨J3.ok, J3.os, J3.bare, J3.base, J3.loc, J3.cell, J3.free, J3.freeC, fun p hp => absurd (show p ∈ ([] : List (Addr × Obj)) from hp) (by simp), J3.hok, J3.len⟩
    have J4 := J3'.write (t' := t3) (x := a) (e := a) (o := exo a C none) (by rw [ea]; exact True.intro) (.inl rfl) k' ⟨_, e'⟩ (exo_ok e')
    have eu : upd H a (exo a C none) = H := by
      funext b
      by_cases hb : b = a
      · rw [hb, upd_same, ea]
      · rw [upd_ne hb]
    rw [eu] at J4
    have ps := ps_ost (X := cxIni P w K mg base f fd fI A outer s H fun _ _ => False) (f := f) (p' := p7) (pos := p9) (pe_var (i := 0) (x := "self") (pos := p6) rfl (Or.inl I.self_)) (pe_var (i := 1) (x := f) (pos := p8) rfl (Or.inl I.f_) I.fne.2.2.1 I.fne.2.2.2)
    show PySem.wpAt _ _ _ (execs [Stmt.Assign [(Expr.Name (Str.ofString "self") p6).Attribute f p7] (Expr.Name f p8) p9] (callEnv fd s.heap.objs.size fI)) _ _ _
    refine ks_wpAt_execs_cons (wpAt_of_wpAny (wpAny_mono (ps.run [] _ _ H { nx := fun _ H' => Q .non H', rt := fun _ _ => False } J4 ⟨v, rfl, .ref a, rfl, a, C, rfl, S.oex, S.noF, .inl ⟨ea, fun dx n ne => q dx n ne⟩⟩) (fun fl s' hs => ?_) fun _ _ z => z.elim))
    cases fl with
    | next =>
      obtain ⟨σ', H', J5, q5⟩ := hs
      show PySem.wpAt _ _ _ (execs [] (callEnv fd s.heap.objs.size fI)) _ _ _
      refine wpAt_of_wpAny ?_
      show wpAny _ _ (pure Flow.next) _ _ _
      exact wpAny_pure ⟨.non, H', J5.os, J5.bare, J5.base, J5.hok, rfl, q5⟩
    | ret u => obtain ⟨_, _, _, _, _, z⟩ := hs; exact False.elim z
    | brk => obtain ⟨_, _, _, z⟩ := hs; exact False.elim z
    | cont => obtain ⟨_, _, _, z⟩ := hs; exact False.elim z
end
section
variable {X : Cx} {W : WX} {e : Expr} {es : List Expr} {ta : TA} {p p1 pos pos' : Pos} {CX : CXT} {x : Str} {C fI : Addr} {k : Nat} {fd : FuncData} {ps : List Str} {sp : Sp}
/-- C(e, ..) by C's own __init__, its context None -/
theorem pmk_own (T : OexC X.K C) (iC : PySem.W.findIn X.K (.ref C) "__init__" = some (some (.ref fI))) (tI : PySem.W.typeIn X.K (.ref fI) = some (.type "function"))
    (F1 : FnOk X.prog X.w X.K X.mg X.base CX k fI fd ps sp) (hr : Room (k + 1) X.A) (hb : Binds X.K fd ps []) (hx : Passes CX X (fun _ _ _ => False)) (hg : Gl X x) (hm : X.mg x = some (.ref C)) (ha : PA X (e :: es) ta)
    (hdb : (x == ("__debug__" : Str)) = false := by decide) (he : starEach (e :: es) X.env = (false, eval e X.env) :: starEach es X.env := by rfl) (hpl : (backTo pos (starEach es X.env)).any (·.1) = false := by rfl) :
    L2N.PMk X (.Call (.Name x p) (e :: es) [] pos) (tMkO C sp [] ta) := by
  intro pins s σ H Q I h
  obtain ⟨nm, q, N, bs, bm, sn, sub, ab, col, dd, k0, k1, k2, k3, k5, hC, hbm⟩ := T.cls
  refine wpAny_Call_Name_kw (ld_glob I hg hm ?_ hdb)
  refine PySem.W.callWith_K (h₀ := X.base) I.ok.mod.kin T.kC (thn (ha.run pos pins s σ H _ I h) fun us s1 ⟨vs, H1, I1, r1, hz, q1⟩ => ⟨I1.kIn, ?_⟩) he hpl
  show wpAny _ _ (call (.ref C) us) _ _ _
  obtain ⟨hp, g, dr, tk, os⟩ := s1
  have hsz : hp.objs.size ≤ hp.objs.size + 1 := Nat.le_succ _
  have hq := q1 (hp.objs.size + 1) (I1.hok.fresh hsz)
  have kk : ∀ b o, hp.get? b = some o → ((hp.push (PySem.W.kdv_tup us)).push (PySem.HandSPX.excO C hp.objs.size)).get? b = some o := fun b o e => Heap.get?_push_of_some _ (Heap.get?_push_of_some _ e)
  have hget : ((hp.push (PySem.W.kdv_tup us)).push (PySem.HandSPX.excO C hp.objs.size)).get? (hp.objs.size + 1) = some (PySem.HandSPX.excO C hp.objs.size) := by heap_get
  have I2 : L2.Inv X pins σ (upd H1 (hp.objs.size + 1) (exo (hp.objs.size + 1) C none)) ⟨(hp.push (PySem.W.kdv_tup us)).push (PySem.HandSPX.excO C hp.objs.size), g, dr, tk, os⟩ :=
    I1.laid (t' := tk) (a := hp.objs.size + 1) (o := exo (hp.objs.size + 1) C none) (h' := (hp.push (PySem.W.kdv_tup us)).push (PySem.HandSPX.excO C hp.objs.size)) kk hsz (exo_ok hget)
  rw [List.append_nil] at hq
  have r2 : Vals (V.ref (hp.objs.size + 1) :: vs) (Value.ref (hp.objs.size + 1) :: us) := .cons rfl r1
  have hl : ((Value.ref (hp.objs.size + 1) :: us) ++ ([] : List Value)).length = ps.length := by
    have e := r2.length
    rw [F1.len _ _ _ _ hq] at e
    rw [List.append_nil]
    exact e.symm
  have hus : us.length ≤ sizeLine := by
    rw [← Paired.length r1, sizeLine_eq]
    omega
  have hb2 := hb _ (Value.ref (hp.objs.size + 1) :: us) I2.kIn hl
  rw [List.append_nil] at hb2
  refine wpAny_call (PySem.HandSPX.call_own PySem.F.excBase_ValueError (fun Y => PySem.HandSPX.refsVE_contains Y bm hbm) (I1.kIn _ _ hC) (PySem.W.looks_findIn I1.kIn iC) (fun self => PySem.W.bind_fn I1.kIn self tI) hus
    (codeAny_mono (F1.run _ X.stack _ _ ⟨Value.ref (hp.objs.size + 1) :: us, []⟩ (Value.ref (hp.objs.size + 1) :: us) _ _ (fun _ _ _ => False) (hr.make C us []) (I2.env0.make C us []) hb2 r2 hq) fun r s' hq' => ?_))
  cases r with
  | error er => exact hx pins σ _ _ er s' I2 hq'
  | ok fl =>
    cases fl with
    | ret u =>
      obtain ⟨v, H2, os2, bare2, un2, hok2, rv, ev, d, fs, ea, ed, hd1, q2⟩ := hq'
      subst ev
      obtain ⟨h2, g2, d2, t2, os'⟩ := s'
      obtain ⟨t0, G, J, kG, ge, hoe, na⟩ := mk_end0 (d2 := d2) (t2 := t2) I1 hsz kk un2 hok2 os2 bare2 ea ed hd1
      exact ⟨rv, ⟨hp.objs.size + 1, _, _, ⟨G, g2, d2, t2, os'⟩, _, .ref C, some d, rfl, J, kG, ge, hoe, ⟨rfl, rfl, fun vs e => by cases e; rfl⟩, rfl, rfl, na, rfl, bare2, raises_own T.exC T.tyC, q2⟩⟩
    | next => exact False.elim hq'
    | brk => exact False.elim hq'
    | cont => exact False.elim hq'
end
/-- binding self and f: at a written f by rfl -/
def IniB (f : Str) : Prop := ∀ (n1 n2 : Str) (a1 a2 : Option Expr) (q1 q2 : Pos) (n4 : FuncBody) (n5 : Scope) (n6 : Addr) (n7 : List (Str × Addr)) (n9 n10 n11 : Value) (n12 : Option Addr) (n13 n14 : Value) (n15 : Addr) (x y : Value),
  bindArgs ⟨n1, n2, ⟨[], [⟨"self", a1, q1⟩, ⟨f, a2, q2⟩], none, [], [], none, []⟩, n4, n5, n6, n7, .none, n9, n10, n11, n12, n13, n14, n15⟩ ⟨[x, y], []⟩ = pure ([("self" : Str), f].zip [x, y])
theorem ini_reason : IniB "reason" := fun _ _ _ _ _ _ _ _ _ _ _ _ _ _ _ _ _ _ _ => rfl
theorem init_binds {P : Program} {K : PySem.W.Frag} {C fI : Addr} {f : Str} {fd : FuncData} (hB : IniB f) (I : InitF P K C fI f fd) : Binds K fd [("self" : Str), f] [] := by
  refine .all fun us hl => ?_
  obtain ⟨a1, q1, a2, q2, hp⟩ := I.par
  have hd := I.dfl
  obtain ⟨n1, n2, n3, n4, n5, n6, n7, n8, n9, n10, n11, n12, n13, n14, n15⟩ := fd
  simp only at hp hd
  subst hp hd
  match us, hl with
  | [x, y], _ => exact hB _ _ _ _ _ _ _ _ _ _ _ _ _ _ _ _ _ _ _
/-- all of it -/
structure NN (P : Program) (K : PySem.W.Frag) (mg : Str → Option Value) (w f : Str) : Prop where
  ini : ∃ fI fd, InitF P K (He.ga K w) fI f fd ∧ PySem.W.findIn K (.ref (He.ga K w)) "__init__" = some (some (.ref fI)) ∧ PySem.W.typeIn K (.ref fI) = some (.type "function")
  sup : SupC P K mg (He.ga K w) f
  mg : mg w = some (.ref (He.ga K w))
  bnd : IniB f
section
variable {X : Cx} {W : WX} {e : Expr} {p p1 pos pos' : Pos} {ρ ρ1 : En} {x : PyData} {D : DE} {k : Nat} {w f : Str}
theorem sd_raiseN (hc : X.calm = true) (tk : L2N.Takes X W) (nn : NN X.prog X.K X.mg w f) (hr : Room k X.A) (he : PD X e ρ x ρ1) (h : D.ex (.ref (He.ga X.K w)) [(f, x)] ρ1) (hk : 2 ≤ k := by decide) (hg : Gl X w := by rfl)
    (hs : starEach [e] X.env = (false, eval e X.env) :: starEach [] X.env := by rfl) (hdb : (w == ("__debug__" : Str)) = false := by decide) : SD X W (.Raise (some (.Call (.Name w p) [e] [] pos')) none pos) ρ D := by
  obtain ⟨fI, fd, I, iC, tI⟩ := nn.ini
  refine PS_imp (L2N.ps_raise hc tk (pmk_own nn.sup.oex iC tI (init_fn (CX := CX0) I nn.sup) (hr.mono hk) (init_binds nn.bnd I) (fun _ _ _ _ _ _ _ h => h.elim) hg nn.mg (pa_cons he pa_nil hs) hdb hs rfl)) fun E σ H ⟨C, F, se, cv⟩ => ⟨C, F, se, fun v F1 H1 x1 e1 r1 => ?_⟩
  refine ⟨by simp, fun a ha => ⟨a, v, rfl, upd_same, fun d hd hda => ⟨rfl, d, [(f, v)], upd_same, ?_, ?_, ?_⟩⟩⟩
  · rw [upd_ne hda, upd_same]
  · rw [upd_ne hda] at hd; exact hd
  · have hd' : H1 d = none := by rw [upd_ne hda] at hd; exact hd
    have eq : upd (del (upd (upd (upd H1 a (exo a (He.ga X.K w) none)) d (exd d [(f, v)])) a (exo a (He.ga X.K w) (some d))) a) d (.xd [(f, v)]) = upd H1 d (.xd [(f, v)]) := by
      funext b
      by_cases hb : b = d
      · rw [hb, upd_same, upd_same]
      · rw [upd_ne hb, upd_ne hb]
        by_cases hba : b = a
        · rw [hba, del_same, ha]
        · rw [del_ne hba, upd_ne hba, upd_ne hb, upd_ne hba]
    rw [eq]
    have g : Gr F1 H1 F1 (upd H1 d (.xd [(f, v)])) := .side e1.fr.ext hd'
    exact cv.ex _ [(f, x)] ρ1 (some d) F1 _ σ h (e1.grow g) ⟨by simp, _, upd_same, rfl, .cons r1 .nil⟩
end
end G

/-! GTry2: several except clauses that bind the same name; a caught exception's field. -/
namespace G
open PySem PySem.Spec PyProof.Rows L2 L2N
abbrev DEnd (i : Nat) (D : Ends) : Ends := { nx := fun σ' H' => D.nx (σ'.set i none) H', rt := D.rt, bk := fun σ' H' => D.bk (σ'.set i none) H', ct := fun σ' H' => D.ct (σ'.set i none) H' }
/-- what the clauses wish, one behind the other -/
def wManyA (K : PySem.W.Frag) (i : Nat) (Wout : WX) (D : Ends) : List (Value × (Addr → Value → Option Addr → TS)) → WX
  | [] => Wout
  | (c, ts) :: r => fun cls d σ H => ∃ b, PySem.W.exmOne K cls c = some b ∧ (b = true → ∀ a, H a = none → ts a cls d (DEnd i D) (σ.set i (some (.ref a))) H) ∧ (b = false → wManyA K i Wout D r cls d σ H)
inductive HdsA (X : Cx) (n : Str) : List ExceptHandler → List (Value × (Addr → Value → Option Addr → TS)) → Prop
  | nil : HdsA X n [] []
  | cons {x : Str} {c : Value} {ts : Addr → Value → Option Addr → TS} {b₀ : Stmt} {suite : List Stmt} {np pos' : Pos} {hds : List ExceptHandler} {l : List (Value × (Addr → Value → Option Addr → TS))} (hc : Names X x c)
      (hsu : ∀ (a : Addr) (oe : Obj) (cls : Value) (d : Option Addr) (pn : List (Addr × Obj)), L2N.Zn cls d oe → (∃ vs, oe.data = .fields vs) → PSs (X.suite a ((a, oe) :: pn)) (b₀ :: suite) (ts a cls d)) (r : HdsA X n hds l) :
      HdsA X n (.ExceptHandler (some (.Name x np)) (some n) (b₀ :: suite) pos' :: hds) ((c, ts) :: l)
section
variable {X : Cx} {n : Str} {i : Nat} {body : List Stmt} {h₀ : ExceptHandler} {hds : List ExceptHandler} {l : List (Value × (Addr → Value → Option Addr → TS))} {pos : Pos} {tb : WX → TS} {Wout : WX}
theorem ps_try_asM (hs : X.stack = X.env :: X.outer) (hf : X.env.frame = some X.env.locals) (hN : X.N.Nodup) (hi : X.N[i]? = some n) (hln : X.env.kindOf n = some .local) (tk : L2N.Takes X Wout)
    (hb : ∀ (W : WX) (pn : List (Addr × Obj)) (xe : Value → Shared → Prop), L2N.Takes (X.tr pn xe) W → PassesOwn (model X.prog X.w) X.A X.env xe → PSs (X.tr pn xe) body (tb W))
    (hh : HdsA X n (h₀ :: hds) l) : PS X (.Try body (h₀ :: hds) [] [] pos) (fun D σ H => tb (wManyA X.K i Wout D l) D σ H) := by
  refine ⟨fun pins s σ H D I h => ?_⟩
  have ok := I.ok
  have hfr : X.A.frames = some (X.env :: X.outer) := by rw [ok.frames, hs]
  have hloc : Loc X.env.scope n := .inl hln
  refine wpAny_Try_except ?_
  refine wpAny_mono ((hb (wManyA X.K i Wout D l) (X.pn ++ pins) (fun e s₁ => wpAny (model X.prog X.w) X.A (noteFrame e X.env) (fun _ s₂ => wpAny (model X.prog X.w) X.A (setFlight e none) (fun _ s₃ =>
    wpAny (model X.prog X.w) X.A (handleBy e X.env (h₀ :: hds)) (SP X pins D) X.xe s₃) X.xe s₂) X.xe s₁) (fun u s' xx => ?_) PassesOwn.looking).run [] s σ H D (I.toTry _) h) (fun f s1 hsp => ?_) (fun e s1 he => he)
  · obtain ⟨a, B, sI, pins', σ', H', cls, d, rfl, J', nb, up, sky, na, os, ag, w⟩ := xx
    have J : L2.Inv X pins σ' H' sI := J'.ofTry ok
    have sky' : Sky B (X.env :: X.outer) a (L2N.Zn cls d) X.env.locals s'.heap := by rw [← hs]; exact sky
    show wpAny (model X.prog X.w) X.A (noteFrame (.ref a) X.env) _ _ _
    refine L2N.Sky.land L2N.Zn.steady hfr hf sky' fun h3 fl3 up3 => ?_
    have J3 : L2.Inv X pins σ' H' { s' with heap := h3 } := J.landed nb fl3.1 (up.trans up3) os ag
    obtain ⟨oe3, vs3, he3, hz3, hd3⟩ := fl3.there
    have notFr : ∀ {h : Heap} {o : Obj} {vs : Array Value}, h.FunFrames B (X.env :: X.outer) → h.get? a = some o → o.data = .fields vs → a ∉ frs (X.env :: X.outer) := fun {h o vs} ff e dd hm => by
      obtain ⟨_, o', e', hnf⟩ := ff.mem hm
      rw [e] at e'; cases e'
      exact hnf _ dd
    have nfr := notFr fl3.2.2.1 he3 hd3
    have nL : a ≠ X.env.locals := fun z => nfr (List.mem_filterMap.mpr ⟨X.env, List.mem_cons_self, by rw [hf, z]⟩)
    have nF : a ∉ X.fs := fun hm => by
      obtain ⟨e, he, q⟩ := List.mem_filterMap.mp hm
      exact nfr (List.mem_filterMap.mpr ⟨e, List.mem_cons_of_mem _ he, q⟩)
    have S3 := J3.suite he3 hd3 na nL nF
    have go : ∀ {hds' : List ExceptHandler} {l' : List (Value × (Addr → Value → Option Addr → TS))}, HdsA X n hds' l' → wManyA X.K i Wout D l' cls d σ' H' →
        wpAny (model X.prog X.w) X.A (handleBy (.ref a) X.env hds') (SP X pins D) X.xe { s' with heap := h3 } := by
      intro hds' l' hk
      induction hk with
      | nil =>
        intro w
        refine wpAny_handleBy_nil ?_
        obtain ⟨k1, k2, k3, oe, vs, T, oT, ts', he, hz, hd, h1, hr⟩ := id fl3
        unfold PySem.passOn
        refine wpAny_bind (wpAny_field he hd h1 ?_)
        rw [if_neg (show ¬ ((Value.ref T == Value.none) = true) from by simp)]
        have fin : wpAny (model X.prog X.w) X.A (setFlight (.ref a) X.env.frame) (fun _ s4 => wpAny (model X.prog X.w) X.A (throw (.ref a) : Sem Flow) (SP X pins D) X.xe s4) X.xe { s' with heap := h3 } := by
          rw [hf]
          refine HandSPX.setFlight_upZ fl3 fun h4 hh4 up4 => wpAny_throw (tk _ _ ?_)
          exact ⟨a, B, sI, pins, σ', H', cls, d, rfl, J, nb, (up.trans up3).trans up4, .inr (.inr (by rw [hs]; exact hh4)), na, os, ag, w⟩
        first
          | exact wpAny_bind (wpAny_pure (wpAny_bind fin))
          | exact wpAny_bind fin
      | @cons x c ts b₀ suite np pos' hds2 l2 hc hsu r ih =>
        intro w
        obtain ⟨b, hb1, hyes, hno⟩ := w
        refine wpAny_handleBy_cons (codeAny_handlers_test ?_) (by intro q; cases q)
        have LT : PySem.W.Looks (model X.prog X.w) h3 (typeOf (.ref a)) cls := fun A Q E s k q => wpAny_typeOf_ref (k _ _ he3) (by rw [hz3.1]; exact q)
        have LM := PySem.W.exm_one (M := model X.prog X.w) (J3.kIn) LT hb1
        have test : ∀ {Q : Value → Shared → Prop} {E : Value → Shared → Prop}, Q c { s' with heap := h3 } → wpAny (model X.prog X.w) (X.A.mark (some (.ref a))) (eval (.Name x np) X.env) Q E { s' with heap := h3 } := fun {Q E} q => by
          obtain ⟨hg, hdbg, hm | ⟨hm, hv, hnn⟩⟩ := hc
          · exact ld_glob (X := X.suite a ((a, oe3) :: (X.pn ++ pins))) S3 hg hm q hdbg
          · exact ld_blt (X := X.suite a ((a, oe3) :: (X.pn ++ pins))) S3 hg hm hv q hnn hdbg
        refine test (LM.here ?_)
        cases b with
        | true =>
          refine codeAny_handlers_suite_as ?_
          refine HandSPX.lands_againZ fl3 fun h4 fl4 up4 => ?_
          have J4 : L2.Inv X pins σ' H' { s' with heap := h4 } := J.landed nb fl4.1 ((up.trans up3).trans up4) os ag
          obtain ⟨oe4, vs4, he4, hz4, hd4⟩ := fl4.there
          have S4 := J4.suite he4 hd4 na nL nF
          refine store_ok (X := X.suite a ((a, oe4) :: (X.pn ++ pins))) (v := .ref a) S4 hN hi hloc rfl (fun s5 S5 => ?_) (.inr hln)
          refine wpAny_mono ((hsu a oe4 cls d (X.pn ++ pins) hz4 ⟨_, hd4⟩).run [] s5 _ H' _ S5 (hyes rfl a na)) (fun f s6 hsp => ?_) (fun _ _ z => False.elim z)
          have end_ : ∀ {σ6 : L2.St} {H6 : Hp} {Q : Shared → Prop}, L2.Inv (X.suite a ((a, oe4) :: (X.pn ++ pins))) [] σ6 H6 s6 → (∀ s7, L2.Inv X pins (σ6.set i none) H6 s7 → Q s7) →
              wpAny (model X.prog X.w) X.A (do bindName X.env n .none; unbindBehindTheSuite X.env n pos') (fun _ s7 => Q s7) X.xe s6 := fun {σ6 H6 Q} S6 hq => gone_ok (S6.unsuite ok) hN hi hln hq
          cases f with
          | next =>
            obtain ⟨σ6, H6, S6, q6⟩ := hsp
            exact end_ S6 fun s7 J7 => ⟨_, _, J7, q6⟩
          | brk =>
            obtain ⟨σ6, H6, S6, q6⟩ := hsp
            exact end_ S6 fun s7 J7 => ⟨_, _, J7, q6⟩
          | cont =>
            obtain ⟨σ6, H6, S6, q6⟩ := hsp
            exact end_ S6 fun s7 J7 => ⟨_, _, J7, q6⟩
          | ret u =>
            obtain ⟨v6, σ6, H6, S6, r6, q6⟩ := hsp
            exact end_ S6 fun s7 J7 => ⟨_, _, _, J7, r6, q6⟩
        | false => exact ih (hno rfl)
    exact go hh w
  · cases f with
    | next =>
      obtain ⟨σ', H', J', q⟩ := hsp
      exact wpAny_execs_nil ⟨σ', H', J'.ofTry ok, q⟩
    | brk =>
      obtain ⟨σ', H', J', q⟩ := hsp
      exact ⟨σ', H', J'.ofTry ok, q⟩
    | cont =>
      obtain ⟨σ', H', J', q⟩ := hsp
      exact ⟨σ', H', J'.ofTry ok, q⟩
    | ret u =>
      obtain ⟨v, σ', H', J', r, q⟩ := hsp
      exact ⟨v, σ', H', J'.ofTry ok, r, q⟩
end
/-! ### the clause that reads the field -/
def tLate (i : Nat) (C : Addr) (f too yes no : Str) (a : Addr) (cls : Value) (d : Option Addr) : TS := fun E σ H => σ[i]? = some (some (.ref a)) ∧ cls = .ref C ∧ ∃ dd vs r, d = some dd ∧ H dd = some (.xd vs) ∧ vs.lookup f = some (.str r) ∧ E.rt (.str (if r = too then yes else no)) H
section
variable {X : Cx} {W : WX} {body suite : List Stmt} {b₀ : Stmt} {D : DE} {ρ : En} {n w1 w2 f too yes no : Str} {C1 : Addr} {c2 : Value} {np np2 p1 p2 p3 p4 p5 p6 p7 pos pos' pos2 pq : Pos} {j1 j2 j3 : _}
theorem late_suite (i : Nat) (xf : XfC X.K C1) (noF : PySem.W.findIn X.K (.ref C1) f = some none) (hi : X.N[i]? = some n) (hln : X.env.kindOf n = some .local) (hd : (n == ("__debug__" : Str)) = false) (hcd : (n == ("__classdict__" : Str)) = false)
    (a : Addr) (oe : Obj) (cls : Value) (d : Option Addr) (pn : List (Addr × Obj)) (hz : L2N.Zn cls d oe) (hv : ∃ vs, oe.data = .fields vs) (hb : attributeBase (.Name n p1) f X.env (eval (.Name n p1) X.env) = eval (.Name n p1) X.env := by rfl) :
    PSs (X.suite a ((a, oe) :: pn)) [.Return (some (.IfExp (.Compare (.Attribute (.Name n p1) f p2) [.Eq] [.Constant (.str too) j1 p3] p4) (.Constant (.str yes) j2 p5) (.Constant (.str no) j3 p6) p7)) pos] (tLate i C1 f too yes no a cls d) := by
  have h1 : PE (X.suite a ((a, oe) :: pn)) (.Name n p1) (tVar i) := pe_var (X := X.suite a ((a, oe) :: pn)) hi (Or.inl hln) hd hcd
  have h2 := pe_xf (X := X) (pos := p2) xf noF hz.zc hv h1 hb
  have h3 := pt_cmpR (X := X.suite a ((a, oe) :: pn)) (pos := p4) op_eq h2 (pe_str (x := too) (j := j1) (pos := p3)) (by rfl)
  refine PSs_imp (pss_one (ps_ret (pe_ifExp h3 (pe_str (x := yes) (j := j2) (pos := p5)) (pe_str (x := no) (j := j3) (pos := p6))))) fun E σ H ⟨e1, e2, dd, vs, r, e3, e4, e5, e6⟩ => ?_
  refine ⟨.ref a, e1, rfl, e2, dd, vs, .str r, e3, e4, e5, ?_⟩
  refine ⟨rfl, decide (r = too), by rw [dec_str, Bool.beq_eq_decide_eq], ?_⟩
  by_cases q : r = too
  · rw [if_pos q] at e6
    show (if decide (r = too) = true then E.rt (.str yes) H else E.rt (.str no) H)
    rw [if_pos (decide_eq_true q)]; exact e6
  · rw [if_neg q] at e6
    show (if decide (r = too) = true then E.rt (.str yes) H else E.rt (.str no) H)
    rw [if_neg (by simpa using q)]; exact e6
def tLate2 (i : Nat) (C : Addr) (f too yes no : Str) (a : Addr) (cls : Value) (d : Option Addr) : TS := fun E σ H => (∃ σ0 : L2.St, σ = σ0.set i (some (.ref a))) ∧ cls = .ref C ∧ ∃ dd vs r, d = some dd ∧ H dd = some (.xd vs) ∧ vs.lookup f = some (.str r) ∧ E.rt (.str (if r = too then yes else no)) H
theorem late_suite2 {st : List Stmt} {i : Nat} {a : Addr} {oe : Obj} {pn : List (Addr × Obj)} {cls : Value} {d : Option Addr} (hi : X.N[i]? = some n) (h : PSs (X.suite a ((a, oe) :: pn)) st (tLate i C1 f too yes no a cls d)) : PSs (X.suite a ((a, oe) :: pn)) st (tLate2 i C1 f too yes no a cls d) :=
  ⟨fun pins s σ H D I ⟨⟨σ0, e⟩, r⟩ => h.run pins s σ H D I ⟨by
    have hl : σ.length = X.N.length := I.len
    have hn : i < X.N.length := (List.getElem?_eq_some_iff.mp hi).1
    subst e
    rw [List.length_set] at hl
    rw [List.getElem?_set_self (by omega)], r⟩⟩
/-- try: body, except C1 as n: return yes if n.f == too else no, except C2 as n: suite -/
theorem sd_try_late (i : Nat) (M : Value → List (Str × PyData) → En → Prop) (hs : X.stack = X.env :: X.outer) (hf : X.env.frame = some X.env.locals) (hN : X.N.Nodup) (hc1 : Names X w1 (.ref C1)) (hc2 : Names X w2 c2) (tk : L2N.Takes X W)
    (xf : XfC X.K C1) (noF : PySem.W.findIn X.K (.ref C1) f = some none)
    (hb : ∀ (W : WX) (pn : List (Addr × Obj)) (xe : Value → Shared → Prop), L2N.Takes (X.tr pn xe) W → PassesOwn (model X.prog X.w) X.A X.env xe → BD (X.tr pn xe) W body ρ { D with ex := M })
    (hh : ∀ cls fs ρ', M cls fs ρ' → (PySem.W.exmOne X.K cls (.ref C1) = some true ∧ cls = .ref C1 ∧ ∃ r : Str, fs = [(f, .str r)] ∧ ∀ a, D.rt (.str (if r = too then yes else no)) (ρ'.set i (.v (.ref a)))) ∨
      (PySem.W.exmOne X.K cls (.ref C1) = some false ∧ ∃ b, PySem.W.exmOne X.K cls c2 = some b ∧ (b = true → fs = [] ∧ ∀ (a : Addr) (oe : Obj) (d : Option Addr) (pn : List (Addr × Obj)), L2N.Zn cls d oe → (∃ vs, oe.data = .fields vs) → d = none → BD (X.suite a ((a, oe) :: pn)) W0 (b₀ :: suite) (ρ'.set i (.v (.ref a))) (hdD D i)) ∧ (b = false → D.ex cls fs ρ')))
    (hi : X.N[i]? = some n := by rfl) (hln : X.env.kindOf n = some .local := by rfl) (hd : (n == ("__debug__" : Str)) = false := by decide) (hcd : (n == ("__classdict__" : Str)) = false := by decide)
    (hat : attributeBase (.Name n p1) f X.env (eval (.Name n p1) X.env) = eval (.Name n p1) X.env := by rfl) :
    SD X W (.Try body [.ExceptHandler (some (.Name w1 np)) (some n) [.Return (some (.IfExp (.Compare (.Attribute (.Name n p1) f p2) [.Eq] [.Constant (.str too) j1 p3] p4) (.Constant (.str yes) j2 p5) (.Constant (.str no) j3 p6) p7)) pos] pos', .ExceptHandler (some (.Name w2 np2)) (some n) (b₀ :: suite) pos2] [] [] pq) ρ D := by
  have hsu : ∀ (a : Addr) (oe : Obj) (cls : Value) (d : Option Addr) (pn : List (Addr × Obj)), L2N.Zn cls d oe → (∃ vs, oe.data = .fields vs) → PSs (X.suite a ((a, oe) :: pn)) (b₀ :: suite)
      (fun E σ H => ∃ q : { q : List (Str × PyData) × En // M cls q.1 q.2 ∧ PySem.W.exmOne X.K cls (.ref C1) = some false ∧ PySem.W.exmOne X.K cls c2 = some true ∧ d = none }, tD X.K W0 (q.1.2.set i (.v (.ref a))) (hdD D i) E σ H) := fun a oe cls d pn hz hv => PSs_ex fun q => by
    rcases hh cls q.1.1 q.1.2 q.2.1 with ⟨h0, _⟩ | ⟨_, b, h1, h2, _⟩
    · rw [q.2.2.1] at h0; cases h0
    · rw [q.2.2.2.1] at h1
      cases h1
      exact (h2 rfl).2 a oe d pn hz hv q.2.2.2.2
  refine PS_imp (ps_try_asM hs hf hN hi hln tk (tb := fun W => tD X.K W ρ { D with ex := M }) (fun W pn xe t p => hb W pn xe t p) (.cons hc1 (fun a oe cls d pn hz hv => late_suite2 hi (late_suite i xf noF hi hln hd hcd a oe cls d pn hz hv hat)) (.cons hc2 hsu .nil))) fun E σ H ⟨C, F, se, cv⟩ => ⟨C, F, se, ?_⟩
  refine ⟨cv.nx, cv.rt, fun cls fs ρ' d F' H' σ' m s r => ?_, cv.bk, cv.ct, cv.rn, cv.rq⟩
  rcases hh cls fs ρ' m with ⟨h1, h2, rr, rfl, h3⟩ | ⟨h1, b, h2, h3, h4⟩
  · refine ⟨true, h1, fun _ a na => ?_, fun z => nomatch z⟩
    cases d with
    | none => cases (show [(f, PyData.str rr)] = [] from r)
    | some dd =>
      obtain ⟨_, vs, e1, e2, e3⟩ := r
      have : vs = [(f, V.str rr)] := by
        match vs, e2, e3 with
        | [(g, v)], e2, e3 =>
          cases e2
          cases e3 with
          | cons r1 _ => rw [show v = V.str rr from rp_str r1]
      subst this
      have s2 := s.setV i (.ref a)
      refine ⟨?_, h2, dd, _, rr, rfl, e1, ?_, cv.rt _ _ _ F' H' _ (h3 a) s2 (.str _)⟩
      · exact ⟨σ', rfl⟩
      · show (match (f == f) with | true => some (V.str rr) | false => none) = _
        rw [beq_self_eq_true]
  · refine ⟨false, h1, fun z => (nomatch z), fun _ => ⟨b, h2, fun hb1 a na => ?_, fun hb0 => cv.ex cls fs ρ' d F' H' σ' (h4 hb0) s r⟩⟩
    subst hb1
    obtain ⟨e0, _⟩ := h3 rfl
    subst e0
    cases d with
    | some dd => exact absurd rfl r.1
    | none =>
      refine ⟨⟨([], ρ'), m, h1, h2, rfl⟩, C, F', s.setV i _, ?_⟩
      exact ⟨fun r F2 H2 σ2 q s2 => cv.nx _ F2 H2 _ q (s2.unset i), cv.rt, fun _ _ _ _ _ _ _ z => z.elim, fun r F2 H2 σ2 q s2 => cv.bk _ F2 H2 _ q (s2.unset i), fun r F2 H2 σ2 q s2 => cv.ct _ F2 H2 _ q (s2.unset i), cv.rn, cv.rq⟩
end
end G

/-! GIni: the facts of an own __init__, looked up. -/
namespace G
open PySem PySem.Spec PyProof.Rows L2
def bodyB (f : Str) : FuncBody → Bool
  | .stmts [.Expr (.Call (.Attribute (.Call (.Name a _) [] [] _) b p2) [.Name c _] [] p4) _, .Assign [.Attribute (.Name d _) e _] (.Name g _) _] => decide (a = "super") && (decide (b = "__init__") && (decide (c = f) && (decide (d = "self") && (decide (e = f) && (decide (g = f) && (p2.endLine == p4.line))))))
  | _ => false
theorem bodyB_ok {f : Str} {b : FuncBody} (h : bodyB f b = true) : ∃ p0 p1 p2 p3 p4 p5 p6 p7 p8 p9, b = .stmts (initB f p0 p1 p2 p3 p4 p5 p6 p7 p8 p9) ∧ (p2.endLine == p4.line) = true := by
  unfold bodyB at h
  split at h
  · simp only [Bool.and_eq_true, decide_eq_true_eq] at h
    obtain ⟨rfl, rfl, rfl, rfl, rfl, rfl, h⟩ := h
    exact ⟨_, _, _, _, _, _, _, _, _, _, rfl, h⟩
  · cases h
def parB (f : Str) : Arguments → Bool
  | ⟨[], [⟨a, _, _⟩, ⟨b, _, _⟩], none, [], [], none, []⟩ => decide (a = "self") && decide (b = f)
  | _ => false
theorem parB_ok {f : Str} {p : Arguments} (h : parB f p = true) : ∃ a1 q1 a2 q2, p = ⟨[], [⟨"self", a1, q1⟩, ⟨f, a2, q2⟩], none, [], [], none, []⟩ := by
  unfold parB at h
  split at h
  · simp only [Bool.and_eq_true, decide_eq_true_eq] at h
    obtain ⟨rfl, rfl⟩ := h
    exact ⟨_, _, _, _, rfl⟩
  · cases h
def noneB : Value → Bool
  | .none => true
  | _ => false
def codeB (K : PySem.W.Frag) (file : Str) : Value → Bool
  | .ref cc => (match K.lookup cc with
    | some ⟨_, _, .fields vs, _⟩ => (match (vs[2]? : Option Value) with
      | some (.str x _) => decide (x = file)
      | _ => false)
    | _ => false)
  | _ => false
theorem codeB_ok {K : PySem.W.Frag} {file : Str} {v : Value} (h : codeB K file v = true) : ∃ cc oc od osl vs tf, v = .ref cc ∧ K.lookup cc = some ⟨oc, od, .fields vs, osl⟩ ∧ vs[2]? = some (.str file tf) := by
  unfold codeB at h
  split at h
  · split at h
    · rename_i e
      split at h
      · rename_i e2
        exact ⟨_, _, _, _, _, _, rfl, e, by rw [e2, of_decide_eq_true h]⟩
      · cases h
    · cases h
  · cases h
def cloB (K : PySem.W.Frag) (C : Addr) : List (Str × Addr) → Bool
  | [(x, c)] => decide (x = "__class__") && (match K.lookup c with
    | some ⟨_, _, .cell (some (.ref D)), _⟩ => decide (D = C)
    | _ => false)
  | _ => false
theorem cloB_ok {K : PySem.W.Frag} {C : Addr} {l : List (Str × Addr)} (h : cloB K C l = true) : ∃ c oc od osl, l = [(("__class__" : Str), c)] ∧ K.lookup c = some ⟨oc, od, .cell (some (.ref C)), osl⟩ := by
  unfold cloB at h
  split at h
  · obtain ⟨h1, h2⟩ := Bool.and_eq_true_iff.mp h
    split at h2
    · rename_i e
      rw [of_decide_eq_true h2] at e
      exact ⟨_, _, _, _, by rw [of_decide_eq_true h1], e⟩
    · cases h2
  · cases h
def scB (f : Str) (sc : Scope) : Bool := decide (sc.kind = .function) && (decide (sc.isCoroutine = false) && (decide (sc.isGenerator = false) && (decide (sc.names.lookup ("self" : Str) = some .local) && (decide (sc.names.lookup f = some .local) && (decide (sc.names.lookup ("super" : Str) = some .globalImplicit) &&
  (decide (sc.names.lookup ("__class__" : Str) = some .free) && sc.names.all fun y => decide (y.2 ≠ .cell) && (decide (y.2 ≠ .free) || decide (y.1 = ("__class__" : Str)))))))))
def fnB (K : PySem.W.Frag) (C : Addr) (f file : Str) (fd : FuncData) : Bool := bodyB f fd.body && (parB f fd.params && (noneB fd.defaults && (codeB K file fd.code && (PySem.W.codeIn K fd.code fd.qualname && (cloB K C fd.closure && (decide (fd.globals = mainGlobals) && (decide (fd.builtins = builtinsNs) && scB f fd.scope)))))))
def iniB (K : PySem.W.Frag) (C : Addr) (f file : Str) : Bool := match PySem.W.findIn K (.ref C) "__init__" with
  | some (some (.ref fI)) => decide (PySem.W.typeIn K (.ref fI) = some (.type "function")) && (match K.lookup fI with
    | some ⟨_, _, .func fd, _⟩ => fnB K C f file fd
    | _ => false)
  | _ => false
theorem iniB_ok {P : Program} {K : PySem.W.Frag} {C : Addr} {f file : Str} (h : iniB K C f file = true) (hP : (P.main.file == file) = true) (hf : f ≠ "self" ∧ f ≠ "__class__" ∧ (f == ("__debug__" : Str)) = false ∧ (f == ("__classdict__" : Str)) = false) :
    ∃ fI fd, InitF P K C fI f fd ∧ PySem.W.findIn K (.ref C) "__init__" = some (some (.ref fI)) ∧ PySem.W.typeIn K (.ref fI) = some (.type "function") := by
  unfold iniB at h
  split at h
  · rename_i fI e
    obtain ⟨h1, h2⟩ := Bool.and_eq_true_iff.mp h
    split at h2
    · rename_i oc od fd osl e2
      unfold fnB scB at h2
      simp only [Bool.and_eq_true, decide_eq_true_eq, List.all_eq_true, Bool.or_eq_true] at h2
      obtain ⟨b1, b2, b3, b4, b5, b6, b7, b8, b9, b10, b11, b12, b13, b14, b15, b16⟩ := h2
      obtain ⟨cc, o1, o2, o3, vs, tf, c1, c2, c3⟩ := codeB_ok b4
      refine ⟨fI, fd, ⟨⟨_, _, _, e2⟩, bodyB_ok b1, parB_ok b2, ?_, ⟨cc, o1, o2, o3, vs, file, tf, c1, c2, c3, hP⟩, b5, cloB_ok b6, b7, b8, b9, b10, b11, b12, b13, b14, b15, fun y hy => (b16 y hy).1, fun y hy q => ?_, hf⟩, e, of_decide_eq_true h1⟩
      · unfold noneB at b3
        split at b3
        · assumption
        · cases b3
      · rcases (b16 y hy).2 with z | z
        · exact absurd q z
        · exact z
    · cases h2
  · cases h
def oexB (K : PySem.W.Frag) (C : Addr) : Bool := match K.lookup C with
  | some ⟨.type "type", _, .cls cd, sl⟩ => (match cd.mro, sl.toList with
    | .ref C' :: bm, [_, _, _, _, some (.builtin n), _] => decide (C' = C) && (decide (n = "ValueError.__new__") && (!cd.hasDel && (cd.hasDict && PySem.HandSPX.refsVE bm)))
    | _, _ => false)
  | _ => false
theorem oexB_ok {K : PySem.W.Frag} {C : Addr} (q : oexB K C = true) : ∃ nm q N bs bm sn sub ab col dd k0 k1 k2 k3 k5, K.lookup C = some (excClassObj nm q C N bs bm true sn sub ab col dd k0 k1 k2 k3 k5 "ValueError.__new__") ∧ PySem.HandSPX.refsVE bm = true := by
  unfold oexB at q
  split at q
  · rename_i dd cd sl ho
    split at q
    · rename_i C' bm k0 k1 k2 k3 n k5 hm hs
      simp only [Bool.and_eq_true, decide_eq_true_eq, Bool.not_eq_true'] at q
      obtain ⟨rfl, rfl, hdel, hd, ht⟩ := q
      obtain ⟨nm, bs, mro, ns, qn, hdd, sn, sub, ab, col, del⟩ := cd
      dsimp only at hm hdel hd
      subst hm hdel hd
      have hsl : sl = #[k0, k1, k2, k3, some (.builtin "ValueError.__new__"), k5] := by
        obtain ⟨l⟩ := sl
        simp only at hs
        rw [hs]
      subst hsl
      exact ⟨nm, qn, ns, bs, bm, sn, sub, ab, col, dd, k0, k1, k2, k3, k5, ho, ht⟩
    · cases q
  · cases q
def supB (K : PySem.W.Frag) (C : Addr) (f : Str) : Bool := decide (PySem.W.ks_superIn K C C "__init__" = some (some (.builtin "ValueError.__init__"))) && (decide (PySem.W.nsIn K cStatics "thirdparty.any" = some none) && (decide (PySem.W.subIn K (.ref C) (.type "ValueError") = some true) &&
  (decide (PySem.W.findIn K (.ref C) f = some none) && (decide (PySem.W.subIn K (.ref C) (.ref C) = some true) && (decide (PySem.W.nsIn K mainGlobals "super" = some none) && (decide (PySem.W.findIn K (.ref C) "__setattr__" = some (some (.builtin "object.__setattr__"))) &&
  (decide (PySem.W.subIn K (.ref C) (.type "BaseException") = some true) && (decide (PySem.W.typeIn K (.ref C) = some (.type "type")) && PySem.W.keepIn K (.ref C)))))))))
/-- the whole of it -/
def nnB (K : PySem.W.Frag) (C : Addr) (f file : Str) : Bool := iniB K C f file && (oexB K C && supB K C f)
theorem nnB_ok {P : Program} {K : PySem.W.Frag} {h : Heap} {mg : Str → Option Value} {w f file : Str} (X : K.In h) (G : h.Ns mainGlobals mg) (h1 : nnB K (He.ga K w) f file = true) (hm : mg w = some (.ref (He.ga K w))) (hP : (P.main.file == file) = true) (hT : (P.main.scope.names.lookup ("super" : Str)).isSome = false)
    (hB : IniB f) (hf : f ≠ "self" ∧ f ≠ "__class__" ∧ (f == ("__debug__" : Str)) = false ∧ (f == ("__classdict__" : Str)) = false) : NN P K mg w f := by
  unfold nnB supB at h1
  simp only [Bool.and_eq_true, decide_eq_true_eq] at h1
  obtain ⟨a1, a2, b1, b2, b3, b4, b5, b6, b7, b8, b9, b10⟩ := h1
  exact ⟨iniB_ok a1 hP hf, ⟨⟨oexB_ok a2, b7, b8, b9, b10⟩, b1, b2, b3, b4, b5, PySem.W.mg_none_of X G b6, hT⟩, hm, hB⟩
/-! ### the head's hook, the statics seen too -/
def adS (g : Addr → Option Obj) (n : Nat) : List Addr := He.asD g n ++ [cStatics]
def obsS (n : Nat) (fa : List He.Fa) (fn : List He.DefD) (ex : PySem.W.Frag → Bool) (g : Addr → Option Obj) : He.AlX := (He.obsT fa fn [] (He.frT g (adS g n)), ex (He.frT g (adS g n)))
def hookS (n : Nat) (fa : List He.Fa) (fn : List He.DefD) (ex : PySem.W.Frag → Bool) : PySem.W.Hook where
  α := He.AlX
  obs := fun s => obsS n fa fn ex s.heap.get?
  val := fun w => He.valX fn [] w
  says := fun w h => ∃ K : PySem.W.Frag, K.In h ∧ He.SaysX fa fn [] [] ex w h K
  of := fun _ _ e => ⟨_, He.frT_in, ⟨congrArg (fun z : He.AlX => z.1) e, congrArg (fun z : He.AlX => z.2) e, fun p hp => absurd hp (by simp), fun p hp => absurd hp (by simp), fun p hp => absurd hp (by simp)⟩⟩
  keeps := fun _ _ _ ⟨K, hK, c⟩ k => ⟨K, PySem.W.Frag.In.keeps hK k, ⟨c.t, c.more, fun p hp => absurd hp (by simp), fun p hp => absurd hp (by simp), fun p hp => absurd hp (by simp)⟩⟩
theorem obsS_eq {n : Nat} {fa : List He.Fa} {fn : List He.DefD} {ex : PySem.W.Frag → Bool} {g : Addr → Option Obj} {s : Shared} (h : ∀ a, g a = s.heap.get? a) : obsS n fa fn ex g = (hookS n fa fn ex).obs s := by
  have e : g = s.heap.get? := funext h
  rw [e] <;> rfl
end G

/-! GDisp: {tuple(xs): c}, one pair, its key a tuple made there. -/
namespace G
open PySem PySem.Spec PyProof.Rows L2
/-- {k: v} with a tuple as key -/
def tDisp1 (tk tv : TE) : TE := fun σ H Q => ∀ p, H p = none → tk σ (upd H p (.dT [])) fun x H1 => tv σ H1 fun y H2 => H2 p = some (.dT []) ∧ ∃ (ks : List Key) (b : Addr), x = .ref b ∧ H2 b = some (.tup (ks.map kV)) ∧ Q (.ref p) (upd H2 p (.dT [(ks, y)]))
theorem pe_disp1 {X : Cx} {pos : Pos} {k v : Expr} {tk tv : TE} (hu : X.A.units + 3 < cLine) (hk : PE X k tk) (hv : PE X v tv) : PE X (.Dict [some k] [v] pos) (tDisp1 tk tv) := by
  refine ⟨fun pins s σ H Q I q => ?_⟩
  have hn := I.hok.fresh (Nat.le_refl s.heap.objs.size)
  have I1 := I.laid (a := s.heap.objs.size) (o := .dT []) (h' := s.heap.push { cls := .type "dict", data := .dict #[] }) (t' := s.toks) (fun _ _ q => Heap.get?_push_of_some _ q) (Nat.le_refl _) (dt_empty s.heap I.big)
  refine wpAny_Dict_any rfl rfl (by simp) (by simp) ?_
  refine pairTrees_cons_walk (thn (hk.run pins _ σ _ _ I1 (q _ hn)) fun u s1 ⟨x, H1, I2, rx, q1⟩ => thn (hv.run pins s1 σ H1 _ I2 q1) fun w2 s2 ⟨y, H2, I3, ry, q2⟩ => pairTrees_nil_walk ?_)
  obtain ⟨e, ks, b, rfl, eb, q3⟩ := q2
  obtain rfl : u = Value.ref b := rx
  obtain ⟨z, hd, xs, rel, dd⟩ := dt_of I3.hok e
  cases rel
  show wpAny _ _ (storeAll s.heap.objs.size [(Value.ref b, w2)]) _ _ _
  unfold storeAll
  rw [List.forIn_cons]
  refine wpAny_bind (wpAny_bind (wpAny_dictSet_heap (hsz := by simp) (by first | (show X.A.units < cLine; omega) | (show X.A.units + 2 < cLine; omega) | (show X.A.units + 3 < cLine; omega)) (key_of I3.hok eb) dd fun h' dd' hs => ?_))
  refine wpAny_pure ?_
  show wpAny _ _ (forIn [] PUnit.unit _) _ _ _
  rw [List.forIn_nil]
  refine wpAny_pure ?_
  obtain ⟨q, es, ep, hq, h2, h3, h4, _, h5⟩ := dd'
  have J := d_write (t' := s2.toks + (tupleKind (mixKind X.prog X.w)).draws ks) I3 (by rw [e]; exact True.intro) hs ⟨q, hq⟩ (ob := .dT [(ks, y)]) ⟨by show 1 ≤ sizeLine; decide, hd, _, (KT.put (kvs := []) .nil ks eb ry).keeps fun c ys ec => ?_, q, es, ep, hq, h2, h3, h4, h5⟩
  · exact ⟨.ref s.heap.objs.size, _, J, rfl, q3⟩
  · rw [upd_ne (ne_of ec e (fun z => nomatch z))]
    exact ec
theorem rpa_intsV {K : PySem.W.Frag} {F : Hp} : ∀ {ns : List Int} {vs : List V}, RpA K F vs (ns.map PyData.int) → vs = (ns.map fun i => (Sum.inl i : Key)).map kV
  | [], vs, r => by cases r; rfl
  | n :: ns, vs, r => by
    cases r with
    | cons r1 r2 => rw [rpa_intsV r2, rp_int r1]; rfl
theorem pn_dtup {X : Cx} {w : Str} {ρ : En} {ns : List Int} {c : Int} {p p1 p2 p3 pos : Pos} {j : _} (i : Nat) (hu : X.A.units + 65 < cLine) (hm : X.mg ("tuple" : Str) = none) (hi : ρ[i]? = some (.d (dL PyData.int ns))) (hg : Gl X "tuple" := by rfl)
    (hN : X.N[i]? = some w := by rfl) (hv : Vis X.env.scope w := by first | exact Or.inl rfl | exact Or.inr (Or.inl rfl) | exact Or.inr (Or.inr rfl)) (hd : (w == ("__debug__" : Str)) = false := by decide) (hcd : (w == ("__classdict__" : Str)) = false := by decide)
    (na : starEach [.Name w p1] X.env = (false, eval (.Name w p1) X.env) :: starEach [] X.env := by rfl) :
    PN X (.Dict [some (.Call (.Name "tuple" p) [.Name w p1] [] p2)] [.Constant (.int c) j p3] pos) ρ (.t [(ns.map fun i => (Sum.inl i : Key), PyData.int c)]) ρ :=
  PE_imp (pe_disp1 (by omega) (pe_tupleOf hg hm (pe_var hN hv hd hcd) na) pe_int) fun σ H Q ⟨C, F, se, q⟩ p hp => by
    obtain ⟨v, hv1, rv⟩ : ∃ v, σ[i]? = some (some v) ∧ Rp X.K F v (dL PyData.int ns) := se.get hi
    cases rv with
    | lst h1 h2 =>
      refine ⟨_, hv1, .inl ⟨_, _, rfl, (se.lay (o := .dT []) hp).1.fr.ext.l h1, fun t ht => ?_⟩⟩
      have htp : t ≠ p := fun z => by rw [z, upd_same] at ht; cases ht
      have ht2 : H t = none := by rw [upd_ne htp] at ht; exact ht
      rw [rpa_intsV h2]
      refine ⟨by rw [upd_ne (fun z => htp z.symm), upd_same], _, t, rfl, upd_same, ?_⟩
      have eq : upd (upd (upd H p (.dT [])) t (.tup ((ns.map fun i => (Sum.inl i : Key)).map kV))) p (.dT [(ns.map fun i => (Sum.inl i : Key), V.int c)]) = upd (upd H t (.tup ((ns.map fun i => (Sum.inl i : Key)).map kV))) p (.dT [(ns.map fun i => (Sum.inl i : Key), V.int c)]) := by
        funext b
        by_cases h1 : b = p
        · rw [h1, upd_same, upd_same]
        · rw [upd_ne h1, upd_ne h1]
          by_cases h2 : b = t
          · rw [h2, upd_same, upd_same]
          · rw [upd_ne h2, upd_ne h2, upd_ne h1]
      rw [eq]
      have s1 := se.grow (.side (p := t) (o := .tup ((ns.map fun i => (Sum.inl i : Key)).map kV)) se.fr.ext ht2)
      obtain ⟨a, b, c', d⟩ := s1.lay (p := p) (o := .dT [(ns.map fun i => (Sum.inl i : Key), V.int c)]) (by rw [upd_ne (fun z => htp z.symm)]; exact hp)
      exact q p F _ (.refl _) a b c' d ⟨_, upd_same, rfl, .cons (.int c) .nil⟩
/-- len of a dict of either kind, frozen or not -/
def rLenF : List V → Hp → VK → Prop := fun xs H Q => ∃ p n, xs = [.ref p] ∧ ((∃ kvs : List (Key × V), Rd H p (.dK kvs) ∧ n = kvs.length) ∨ ∃ kvs : List (List Key × V), Rd H p (.dT kvs) ∧ n = kvs.length) ∧ Q (.int ((n : Nat) : Int)) H
theorem call_lenF {X : Cx} : CallR X (.builtin "len") rLenF := by
  intro pins s σ H xs us Q I r h
  obtain ⟨p, n, rfl, hp, q⟩ := h
  obtain ⟨u, rfl, rx⟩ := vals1 r
  obtain rfl : u = .ref p := rx
  rcases hp with ⟨kvs, hp, rfl⟩ | ⟨kvs, hp, rfl⟩
  · exact d_len I hp fun t s' I' => ⟨.int kvs.length, H, I', ⟨t, rfl⟩, q⟩
  · obtain ⟨z, hd, ys, rel, dd⟩ := dt_rd I.hok hp
    have hl : kvs.length = ys.length := Paired.length rel
    refine call_len_dictH hd dd (by rw [← hl]; rw [sizeLine_eq] at z; omega) ?_
    rw [← hl]
    exact ⟨.int ((kvs.length : Nat) : Int), H, I.tok _, ⟨_, rfl⟩, q⟩
theorem pd_lenK {X : Cx} {a : Expr} {p pos : Pos} {ρ ρ1 : En} {ds : List (PyData × PyData)} (hm : X.mg ("len" : Str) = none) (h : PD X a ρ (.dict ds) ρ1) (hg : Gl X "len" := by rfl) (he : starEach [a] X.env = (false, eval a X.env) :: starEach [] X.env := by rfl) : PD X (.Call (.Name "len" p) [a] [] pos) ρ (.int (ds.length : Int)) ρ1 :=
  pd_bi call_lenF (fun F H vs Q e r q => by
    obtain ⟨v, rfl, h⟩ := rpa_one r
    cases h with
    | @dK l o kvs ds2 h1 h2 =>
      have hl : kvs.length = ds2.length := by have := h2.length; rw [List.length_map] at this; exact this
      exact ⟨_, _, rfl, .inl ⟨kvs, .inr ⟨o, e _ _ h1⟩, rfl⟩, q _ F H (.refl e) (by rw [List.length_zip, List.length_map, ← hl, Nat.min_self]; exact .int _)⟩
    | @dT l o kvs ds2 h1 _ h2 =>
      have hl : kvs.length = ds2.length := by have := h2.length; rw [List.length_map] at this; exact this
      exact ⟨_, _, rfl, .inr ⟨kvs, .inr ⟨o, e _ _ h1⟩, rfl⟩, q _ F H (.refl e) (by rw [List.length_zip, List.length_map, ← hl, Nat.min_self]; exact .int _)⟩) (ad_one h he) hm rfl hg (by decide) (by decide) he
theorem pd_lenDT {X : Cx} {a : Expr} {p pos : Pos} {ρ ρ1 : En} {κ α : Type} {kt : κ → List Key} {f : α → PyData} {m : List (κ × α)} (hm : X.mg ("len" : Str) = none) (h : PD X a ρ (dDT kt f m) ρ1) (hg : Gl X "len" := by rfl) (he : starEach [a] X.env = (false, eval a X.env) :: starEach [] X.env := by rfl) : PD X (.Call (.Name "len" p) [a] [] pos) ρ (.int (m.length : Int)) ρ1 := by
  have q := pd_lenK (p := p) (pos := pos) hm h hg he
  rw [List.length_map, List.length_map] at q
  exact q
/-! ### tuples of one kind -/
section
variable {X : Cx} {a b e : Expr} {p p2 pos : Pos} {ρ ρ1 ρ2 ρ3 : En} {α : Type} [Inhabited α] {f : α → PyData} {ns ms : List α} {i : Int}
theorem pd_lenTL (hm : X.mg ("len" : Str) = none) (h : PD X a ρ (.tuple (ns.map f)) ρ1) (hg : Gl X "len" := by rfl) (he : starEach [a] X.env = (false, eval a X.env) :: starEach [] X.env := by rfl) : PD X (.Call (.Name "len" p) [a] [] pos) ρ (.int (ns.length : Int)) ρ1 := by
  have q := pd_lenT (p := p) (pos := pos) hm h hg he
  rw [List.length_map] at q
  exact q
theorem pd_ixTL (hi : -(ns.length : Int) ≤ i ∧ i < ns.length) (ha : PD X a ρ (.tuple (ns.map f)) ρ1) (hb : PD X b ρ1 (.int i) ρ2) (hs : PlainIx b := by intro _ _; rfl) : PD X (.Subscript a b pos) ρ (f (gI ns i)) ρ2 := pd_ixT (gI_at hi) ha hb hs
theorem pd_sliceTL {lo hi : Option Expr} {ol oh : Option Int} (h : PD X e ρ (.tuple (ns.map f)) ρ1) (hl : OD X lo ρ1 ol ρ2) (hh : OD X hi ρ2 oh ρ3) : PD X (.Subscript e (.Slice lo hi none p2) pos) ρ (.tuple ((cutG ns ol oh).map f)) ρ3 := by
  have q := pd_sliceT (pos := pos) (p2 := p2) h hl hh
  unfold cutD at q
  rw [List.length_map, ← List.map_drop, ← List.map_take] at q
  exact q
theorem pd_addTL (ha : PD X a ρ (.tuple (ns.map f)) ρ1) (hb : PD X b ρ1 (.tuple (ms.map f)) ρ2) (hl : ns.length + ms.length ≤ 100000) : PD X (.BinOp a .Add b pos) ρ (.tuple ((ns ++ ms).map f)) ρ2 := by
  have q := pd_addT (pos := pos) ha hb (by rw [List.length_map, List.length_map]; exact hl)
  rw [← List.map_append] at q
  exact q
end
theorem kds_int (xs : List Int) : kDs (kLT kI xs) = PyData.tuple (xs.map PyData.int) := by
  show PyData.tuple _ = _
  unfold kLT
  rw [List.map_map]; rfl
theorem td_dnotO {X : Cx} {a : Expr} {ρ ρ1 : En} {y : PyData} {pb : Option Addr} {ct : Ct} {ob : Option PyData} {o : Str} {p1 pos : Pos} (n : Nat) (hu : X.A.units + 65 < cLine) (ha : PD X a ρ y ρ1) (h1 : ρ1[n]? = some (.o pb ct)) (dk : DK ct y ob)
    (hN : X.N[n]? = some o := by rfl) (hv : Vis X.env.scope o := by first | exact Or.inl rfl | exact Or.inr (Or.inl rfl) | exact Or.inr (Or.inr rfl)) (hd : (o == ("__debug__" : Str)) = false := by decide) (hcd : (o == ("__classdict__" : Str)) = false := by decide)
    (hm : behindInMarks .NotIn (.Name o p1) = false := by rfl) : TD X (.Compare a [.NotIn] [.Name o p1] pos) ρ (!ob.isSome) ρ1 :=
  PT_imp (pt_cmp (pc_dnotin (by omega) ha (pe_var hN hv hd hcd)) hm) fun σ H Q ⟨C, F, se, q⟩ => ⟨C, F, se, fun v F1 H1 x1 e1 r1 => by
    obtain ⟨l, b1, _, b2, _⟩ := e1.getO h1
    obtain ⟨ov, g1, g2, g3⟩ := dk.get e1.fr.ext b2 r1
    exact ⟨.ref l, b1, l, ov, rfl, g1, _, rfl, by rw [iss_of g2 g3]; exact q F1 H1 x1 e1⟩⟩
end G

/-! GRel: a list comprehension over a list of which only a relation is known. -/
namespace G
open PySem PySem.Spec PyProof.Rows L2
section
variable {X : Cx} {e elt tg iter : Expr} {p pos pos' : Pos} {ρ ρ' ρ1 : En} {α β : Type} {scope : Scope} {own : List (Str × Nat)}
theorem pp_imp {R R' : PyData → En → Prop} (h : PP X e ρ R) (i : ∀ y r, R y r → R' y r) : PP X e ρ R' := PE_imp h fun σ H Q ⟨C, F, se, q⟩ => ⟨C, F, se, fun v F' H' x r hR => q v F' H' x r (i _ _ hR)⟩
theorem pi_rel {R : List PyData → En → Prop} (h : PP X e ρ (fun y r => ∃ xs, y = .list xs ∧ R xs r)) : PI X tg e (fun σ H Q => ∃ C F, SE X.K C F H σ ρ ∧ ∀ J F' H' xs r, R xs r → Ex F F' → SE X.K C F' H' σ r → Wk X.K F' σ J xs (fun z => SrcOk z none xs) none → Q J H') := PI_imp (pi_list (PE_imp h (t' := fun σ H Q => ∃ C F, SE X.K C F H σ ρ ∧ ∀ v F' H' xs r, R xs r → Ex F F' → SE X.K C F' H' σ r → SrcV X.K F' σ none v xs → Q v H') fun σ H Q ⟨C, F, se, q⟩ => ⟨C, F, se, fun v F' H' x r ⟨xs, hx, hR⟩ ex se' rp => by
    subst hx
    refine q v F' H' xs r hR ex se' ?_
    cases rp with
    | lst h1 h2 => exact ⟨_, _, rfl, h1, h2⟩⟩)) fun σ H R' ⟨C, F, se, q⟩ => by
  refine ⟨C, F, se, fun v F1 H1 xs r hR x1 e1 s1 => ?_⟩
  have ok' : SrcOk r none xs := trivial
  obtain ⟨a, vs, rfl, l1, r1⟩ := s1.look e1 ok'
  have key : ∀ C F2 H2 σ2 ρ2, Ex F1 F2 → SE X.K C F2 H2 σ2 ρ2 → ∃ us, SqL X.K H2 a us ∧ RpA X.K F2 us xs := fun C F2 H2 σ2 ρ2 x2 e2 => by
    have s2 : SrcV X.K F2 σ2 none (.ref a) xs := SrcV.mono (σ := σ) (src := none) x2 s1
    obtain ⟨b, us, eb, l2, r2⟩ := s2.look e2 trivial
    cases eb
    exact ⟨us, l2, r2⟩
  refine ⟨a, rfl, ⟨vs, l1⟩, q _ F1 H1 xs r hR x1 e1 ⟨fun i C F2 H2 σ2 ρ2 x2 e2 ok2 hs hi => ?_, fun C F2 H2 σ2 ρ2 x2 e2 ok2 hs => ?_, fun i C F2 H2 σ2 ρ2 v H3 x2 e2 ok2 hs hi y => ?_⟩⟩
  · obtain ⟨us, l2, r2⟩ := key C F2 H2 σ2 ρ2 x2 e2
    have hl := r2.length
    exact walk_list.goes i H2 (by rw [hl]; exact hi) l2
  · obtain ⟨us, l2, r2⟩ := key C F2 H2 σ2 ρ2 x2 e2
    rw [← r2.length]
    exact walk_list.stops H2 l2
  · obtain ⟨us, l2, r2⟩ := key C F2 H2 σ2 ρ2 x2 e2
    obtain ⟨rfl, h3⟩ := walk_list.yields i H2 v H3 (by rw [r2.length]; exact hi) l2 y
    obtain ⟨d, h4, h5⟩ := r2.getV h3
    exact ⟨d, F2, h4, .refl _, e2, h5⟩
/-- what such a comprehension needs, whatever is done with it -/
structure LcR (X : Cx) (elt tg iter : Expr) (scope : Scope) (ρ : En) (R : List PyData → En → Prop) : Prop where
  ex : ∃ (own : List (Str × Nat)) (wi : TI) (g : TG) (tt : TT) (te : TE), PI X tg iter wi ∧ BlkOk X.N X.env.scope scope own ∧ (∀ (s : Shared) (H : Hp) (C : Addr) (cl : List (Str × Addr)) (fp : List Addr), PG (X.blk s H scope (compEnvC scope cl C X.env) fp) tg g) ∧
    (∀ (s : Shared) (H : Hp) (C : Addr) (cl : List (Str × Addr)) (fp : List Addr), PTs (X.blk s H scope (compEnvC scope cl C X.env) fp) [] tt) ∧ (∀ (s : Shared) (H : Hp) (C : Addr) (cl : List (Str × Addr)) (fp : List Addr), PE (X.blk s H scope (compEnvC scope cl C X.env) fp) elt te) ∧
    ∀ σ H Q, (∃ C F, SE X.K C F H σ ρ ∧ ∀ p F' H' ys r, R ys r → Ex F F' → SE X.K C F' H' σ r → F' p = none → C.H0 p = none → (∀ j, ¬ Owns σ r j p) → Own1 X.K F' H' p (.l ys) → Q (.ref p) H') → tLc wi g tt te (own.map (·.2)) σ H Q
/-- [elt for tg in iter], the list known by a relation -/
theorem lcR (td : α → PyData) (fd : β → PyData) (val : α → β) (R : List α → En → Prop) (hb : BlkOk X.N X.env.scope scope own) (hi : PP X iter ρ (fun y r => ∃ xs, y = .list (xs.map td) ∧ R xs r)) (hlen : ∀ xs r, R xs r → xs.length < 100000)
    (hT : ∀ xs r, R xs r → ∀ a, a ∈ xs → ∃ ρt ρe, (∀ Y, IsBlk X scope Y → GV Y (own.map (·.2)) tg (td a) (wipeE r (own.map (·.2))) ρt) ∧ (∀ Y, IsBlk X scope Y → PE Y elt (tP X.K ρt (fd (val a)) ρe)) ∧ Le (wipeE r (own.map (·.2))) ρt ∧ Le (wipeE r (own.map (·.2))) ρe)
    : LcR X elt tg iter scope ρ (fun y r => ∃ xs r1, y = (xs.map val).map fd ∧ R xs r1 ∧ r = restE r1 r1 (own.map (·.2))) := by
  let ι := { p : List α × En // R p.1 p.2 }
  have cho : ∀ p : { p : ι × α // p.2 ∈ p.1.1.1 }, ∃ q : En × En, (∀ Y, IsBlk X scope Y → GV Y (own.map (·.2)) tg (td p.1.2) (wipeE p.1.1.1.2 (own.map (·.2))) q.1) ∧ (∀ Y, IsBlk X scope Y → PE Y elt (tP X.K q.1 (fd (val p.1.2)) q.2)) ∧ Le (wipeE p.1.1.1.2 (own.map (·.2))) q.1 ∧ Le (wipeE p.1.1.1.2 (own.map (·.2))) q.2 := fun p => by
    obtain ⟨ρt, ρe, h⟩ := hT p.1.1.1.1 p.1.1.1.2 p.1.1.2 p.1.2 p.2
    exact ⟨(ρt, ρe), h⟩
  let T : ι → Nat → Turn := fun p i => if h : i < p.1.1.length then
      let q := Classical.choose (cho ⟨(p, p.1.1[i]), List.getElem_mem h⟩)
      ⟨q.1, q.1, true, fd (val p.1.1[i]), q.2⟩ else ⟨[], [], false, .none, []⟩
  have hT' : ∀ (p : ι) i d, (p.1.1.map td)[i]? = some d → TurnOk X scope (own.map (·.2)) tg elt [] d p.1.2 p.1.2 (T p i) := fun p i d hd => by
    have hlt : i < p.1.1.length := by
      by_cases z : i < p.1.1.length
      · exact z
      · rw [List.getElem?_eq_none (by rw [List.length_map]; omega)] at hd; cases hd
    rw [List.getElem?_map, List.getElem?_eq_getElem hlt] at hd
    cases hd
    have sp := Classical.choose_spec (cho ⟨(p, p.1.1[i]), List.getElem_mem hlt⟩)
    have eT : T p i = ⟨(Classical.choose (cho ⟨(p, p.1.1[i]), List.getElem_mem hlt⟩)).1, (Classical.choose (cho ⟨(p, p.1.1[i]), List.getElem_mem hlt⟩)).1, true, fd (val p.1.1[i]), (Classical.choose (cho ⟨(p, p.1.1[i]), List.getElem_mem hlt⟩)).2⟩ := dif_pos hlt
    rw [eT]
    obtain ⟨s1, s3, s4, s5⟩ := sp
    refine ⟨s1, fun Y hY => tsd_nil_of hY, fun Y hY _ => s3 Y hY, ?_⟩
    dsimp only
    rw [if_pos rfl]
    exact s5
  have eo : ∀ (p : ι) n, n ≤ p.1.1.length → outs (T p) n = ((p.1.1.take n).map val).map fd := by
    intro p n
    induction n with
    | zero => intro _; simp [outs]
    | succ n ih =>
      intro hn
      have hlt : n < p.1.1.length := by omega
      have eT : T p n = ⟨(Classical.choose (cho ⟨(p, p.1.1[n]), List.getElem_mem hlt⟩)).1, (Classical.choose (cho ⟨(p, p.1.1[n]), List.getElem_mem hlt⟩)).1, true, fd (val p.1.1[n]), (Classical.choose (cho ⟨(p, p.1.1[n]), List.getElem_mem hlt⟩)).2⟩ := dif_pos hlt
      unfold outs
      rw [eT, ih (by omega), take_succ_of (List.getElem?_eq_getElem hlt)]
      dsimp only
      rw [if_pos rfl, List.map_append, List.map_append]; rfl
  have hg := fun (s : Shared) (H : Hp) (C : Addr) (cl : List (Str × Addr)) (fp : List Addr) => PG_ex (t := fun (p : { p : ι × Nat × PyData // (p.1.1.1.map td)[p.2.1]? = some p.2.2 }) => tGv X.K (own.map (·.2)) p.1.2.2 (wipeE p.1.1.1.2 (own.map (·.2))) (T p.1.1 p.1.2.1).ρt) fun p => (hT' p.1.1 p.1.2.1 p.1.2.2 p.2).tg _ ⟨s, H, C, cl, fp, rfl⟩
  have ht := fun (s : Shared) (H : Hp) (C : Addr) (cl : List (Str × Addr)) (fp : List Addr) => PTs_ex fun p : { p : ι × Nat × PyData // (p.1.1.1.map td)[p.2.1]? = some p.2.2 } => (hT' p.1.1 p.1.2.1 p.1.2.2 p.2).ts _ ⟨s, H, C, cl, fp, rfl⟩
  have he := fun (s : Shared) (H : Hp) (C : Addr) (cl : List (Str × Addr)) (fp : List Addr) => PE_ex fun p : { p : ι × Nat × PyData // (p.1.1.1.map td)[p.2.1]? = some p.2.2 ∧ (T p.1 p.2.1).k = true } => (hT' p.1.1 p.1.2.1 p.1.2.2 p.2.1).el _ ⟨s, H, C, cl, fp, rfl⟩ p.2.2
  have hi' := pi_rel (tg := tg) (R := fun ys r => ∃ xs, ys = xs.map td ∧ R xs r) (PE_imp hi fun σ H Q ⟨C, F, se, q⟩ => ⟨C, F, se, fun v F' H' x r ⟨xs, hx, hR⟩ => q v F' H' x r ⟨_, hx, xs, rfl, hR⟩⟩)
  refine ⟨own, _, _, _, _, hi', hb, hg, ht, he, fun σ H Q ⟨C, F, se, q⟩ => ⟨C, F, se, fun J F1 H1 ys r ⟨xs, hy, hR⟩ x1 e1 wk => ?_⟩⟩
  subst hy
  let p0 : ι := ⟨(xs, r), hR⟩
  exact lc_read (its := xs.map td) (I := fun _ => r) (T := T p0) (vs := own.map (·.2)) (ok := fun z => SrcOk z none (xs.map td)) (src := none)
    (g := fun v σ H Q => ∃ p : { p : ι × Nat × PyData // (p.1.1.1.map td)[p.2.1]? = some p.2.2 }, tGv X.K (own.map (·.2)) p.1.2.2 (wipeE p.1.1.1.2 (own.map (·.2))) (T p.1.1 p.1.2.1).ρt v σ H Q)
    (tt := fun σ H Q => ∃ p : { p : ι × Nat × PyData // (p.1.1.1.map td)[p.2.1]? = some p.2.2 }, tT X.K (T p.1.1 p.1.2.1).ρt (T p.1.1 p.1.2.1).k (T p.1.1 p.1.2.1).ρm σ H Q)
    (te := fun σ H Q => ∃ p : { p : ι × Nat × PyData // (p.1.1.1.map td)[p.2.1]? = some p.2.2 ∧ (T p.1 p.2.1).k = true }, tP X.K (T p.1.1 p.1.2.1).ρm (T p.1.1 p.1.2.1).y (T p.1.1 p.1.2.1).ρe σ H Q) e1 wk (wipeE_le _ _) (fun _ h => nomatch h) (fun _ _ => trivial) (by rw [List.length_map]; exact hlen xs r hR)
    (fun i d hd v σ H Q t => ⟨⟨(p0, i, d), hd⟩, t⟩) (fun i d hd σ H Q t => ⟨⟨(p0, i, d), hd⟩, t⟩) (fun i d hd k σ H Q t => ⟨⟨(p0, i, d), hd, k⟩, t⟩) (fun i d hd => (hT' p0 i d hd).nx) fun pp F2 H2 x2 e2 f2 c2 n2 o2 => by
      obtain ⟨vs, hp, rr⟩ := o2
      rw [List.length_map, eo p0 _ (Nat.le_refl _), List.take_length] at rr
      exact q pp F2 H2 _ _ ⟨xs, r, rfl, hR, rfl⟩ (x1.trans x2) e2 f2 c2 n2 ⟨vs, hp, rr⟩
theorem pp_lcR {R : List PyData → En → Prop} (h : LcR X elt tg iter scope ρ R) (hN : X.N.Nodup) (hc : X.calm = true := by rfl) (hs : ∀ x, foldedSetIterable iter X.env x = pure x := by intro _; rfl) : PP X (.ListComp elt [⟨tg, iter, [], 0⟩] scope pos) ρ (fun y r => ∃ ys, y = .list ys ∧ R ys r) := by
  obtain ⟨own, wi, g, tt, te, hi, hb, hg, ht, he, q⟩ := h.ex
  exact PE_imp (pe_lc hc hN hi hb hg ht he hs) fun σ H Q ⟨C, F, se, qq⟩ => q σ H _ ⟨C, F, se, fun p F' H' ys r hR x se' fp h0 no ⟨vs, hp, rr⟩ => qq (.ref p) (upd F' p (.lst vs)) H' _ r ⟨ys, rfl, hR⟩ (x.trans (.new fp)) (se'.frz fp hp h0 no) (.lst (SqL.of upd_same) (rr.mono (.new fp)))⟩
theorem sd_setLcR {R : List PyData → En → Prop} {D : DE} {W : WX} {w : Str} {spos : Pos} (i : Nat) (h : LcR X elt tg iter scope ρ R) (h2 : ∀ ys r, R ys r → D.nx (r.set i (.d (.list ys)))) (hN : X.N.Nodup) (hc : X.calm = true := by rfl) (hy : X.N[i]? = some w := by rfl) (hyl : X.env.scope.names.lookup w = some .local := by rfl)
    (hsw : swapsWith (.ListComp elt [⟨tg, iter, [], 0⟩] scope pos) (some (.Name w pos')) spos.line X.env = pure true := by rfl) (hs : ∀ x, foldedSetIterable iter X.env x = pure x := by intro _; rfl) : SD X W (.Assign [.Name w pos'] (.ListComp elt [⟨tg, iter, [], 0⟩] scope pos) spos) ρ D := by
  obtain ⟨own, wi, g, tt, te, hi, hb, hg, ht, he, q⟩ := h.ex
  refine PS_imp (ps_setLc hc hN hy hyl hsw hi hb hg ht he hs) fun E σ H ⟨C, F, se, cv⟩ => q σ H _ ⟨C, F, se, fun p F1 H1 ys r hR x1 e1 fp h0 no r1 => ?_⟩
  obtain ⟨vs, hp, rr⟩ := r1
  exact cv.nx _ (upd F1 p (.lst vs)) H1 _ (h2 ys r hR) ((e1.frz fp hp h0 no).setD (.lst (SqL.of upd_same) (rr.mono (.new fp))))
end
end G

/-! GLend: an own list is read as data while an int is computed, and is own again behind it. -/
namespace G
open PySem PySem.Spec PyProof.Rows L2
def unO : Sl → Sl
  | .o _ _ => .un
  | .v _ => .un
  | s => s
def lend (ρ : En) (i : Nat) (xs : List PyData) : En := (ρ.map unO).set i (.d (.list xs))
section
variable {X : Cx} {e : Expr} {ρ ρd ρ2 : En} {xs : List PyData} {n : Int}
theorem pd_lend (i : Nat) (h0 : ρ[i]? = some (.ol xs)) (h : PD X e ρd (.int n) ρ2) (hd : ρd = lend ρ i xs := by rfl) : PD X e ρ (.int n) ρ := PE_imp h fun σ H Q ⟨C, F, se, q⟩ => by
  obtain ⟨l, a1, _, ⟨vs, a3, a5⟩, a4⟩ := se.getO h0
  have fl := (se.own i l a4).1
  have r : Rp X.K (L2.upd F l (.lst vs)) (.ref l) (.list xs) := .lst (SqL.of upd_same) (a5.mono (.new fl))
  have xF : Ex F (L2.upd F l (.lst vs)) := .new fl
  have x0 : Ex (L2.upd F l (.lst vs)) H := fun a u hu => by
    by_cases z : a = l
    · rw [z, upd_same] at hu; rw [z, a3]; exact hu
    · rw [upd_ne z] at hu; exact se.fr.ext a u hu
  have hl : i < ρ.length := by
    by_cases z : i < ρ.length
    · exact z
    · rw [List.getElem?_eq_none (by omega)] at h0; cases h0
  have slot : ∀ j s, ρd[j]? = some s → s = .un ∨ (j = i ∧ s = .d (.list xs)) ∨ (∃ d, s = .d d ∧ ρ[j]? = some (.d d)) := fun j s hs => by
    rw [hd] at hs
    unfold lend at hs
    by_cases z : j = i
    · subst z
      rw [List.getElem?_set_self (by rw [List.length_map]; exact hl)] at hs
      cases hs
      exact .inr (.inl ⟨rfl, rfl⟩)
    · rw [List.getElem?_set_ne (fun w => z w.symm), List.getElem?_map] at hs
      cases hj : ρ[j]? with
      | none => rw [hj] at hs; cases hs
      | some t =>
        rw [hj] at hs
        cases hs
        cases t with
        | un => exact .inl rfl
        | d x => exact .inr (.inr ⟨x, rfl, rfl⟩)
        | o _ _ => exact .inl rfl
        | v _ => exact .inl rfl
  have no : ∀ j a, ¬ Owns σ ρd j a := fun j a ⟨h1, s, h2, h3⟩ => by
    rcases slot j s h2 with z | ⟨_, z⟩ | ⟨d, z, _⟩ <;> subst z <;> cases h3
  refine ⟨⟨L2.upd F l (.lst vs), H, []⟩, L2.upd F l (.lst vs), ⟨⟨x0, .refl _, fun a o h _ => h, fun a h => h, fun a _ z => .inl z, fun a h => by cases h⟩, ?_, fun j s hs => ?_, fun j k a hj => absurd hj (no j a), fun j a hj => absurd hj (no j a), fun j a c h1 h2 => absurd ⟨h2, _, h1, rfl⟩ (no j a)⟩, fun v F' H' x1 e1 r1 => ?_⟩
  · rw [se.len, hd]; unfold lend; rw [List.length_set, List.length_map]
  · rcases slot j s hs with z | ⟨rfl, z⟩ | ⟨d, z, z2⟩
    · subst z; trivial
    · subst z; rw [a1]; exact ⟨_, rfl, r⟩
    · subst z
      obtain ⟨w, w1, w2⟩ := se.ok j _ z2
      exact ⟨w, w1, w2.mono xF⟩
  · have g := Gr.ofFr e1.fr
    refine q v F H' (.refl _) (se.grow ⟨.refl _, g.h, se.fr.ext.trans g.h, fun _ _ h => .inl h⟩) ?_
    cases r1
    exact .int _
end
end G

/-! GGuard: tests known by a relation (a def that draws, asked in a condition; what is left to draw from is known by that it is a pool). -/
namespace G
open PySem PySem.Spec PyProof.Rows L2
def tTP (K : PySem.W.Frag) (ρ : En) (R : Bool → En → Prop) : TT := fun σ H Q => ∃ C F, SE K C F H σ ρ ∧ ∀ k F' H' ρ', R k ρ' → Ex F F' → SE K C F' H' σ ρ' → Q k H'
abbrev TP' (X : Cx) (e : Expr) (ρ : En) (R : Bool → En → Prop) : Prop := PT X e (tTP X.K ρ R)
abbrev WP' (X : Cx) (e : Expr) (ρ : En) (R : Bool → En → Prop) : Prop := PW X e (tTP X.K ρ R)
section
variable {X : Cx} {W : WX} {e a b c : Expr} {pos : Pos} {ρ ρ1 : En} {A B rest : List Stmt} {restE : List Expr} {D : DE} {R : Bool → En → Prop} {S : PyData → En → Prop}
theorem tp_val (h : PP X e ρ S) (hS : ∀ y r, S y r → ∃ k, y = .bool k ∧ R k r) (he : ∀ whole, isTrue e X.env whole = (do let v ← whole; standAt e.pos; holding [v] (truthy v)) := by intro _; rfl) : TP' X e ρ R :=
  PT_imp (pt_val h he) fun σ H Q ⟨C, F, se, q⟩ => ⟨C, F, se, fun v F1 H1 x ρ' hx x1 e1 r1 => by
    obtain ⟨k, rfl, hR⟩ := hS _ _ hx
    exact ⟨k, rp_bool r1, q k F1 H1 ρ' hR x1 e1⟩⟩
theorem tp_not (h : TP' X a ρ R) : TP' X (.UnaryOp .Not a pos) ρ (fun k r => R (!k) r) :=
  PT_imp (pt_not h) fun σ H Q ⟨C, F, se, q⟩ => ⟨C, F, se, fun k F1 H1 ρ' hR x1 e1 => q (!k) F1 H1 ρ' (by simpa using hR) x1 e1⟩
theorem wp_or1 (h : TP' X a ρ R) : WP' X (.BoolOp .Or [a] pos) ρ R := pw_or1 h
theorem wp_or_f (ha : TD X a ρ false ρ1) (hb : WP' X (.BoolOp .Or (b :: restE) pos) ρ1 R) : WP' X (.BoolOp .Or (a :: b :: restE) pos) ρ R :=
  PW_imp (pw_or ha hb) fun σ H Q ⟨C, F, se, q⟩ => ⟨C, F, se, fun F1 H1 x1 e1 => by
    refine iteF ?_
    exact ⟨C, F1, e1, fun k F2 H2 ρ' hR x2 e2 => q k F2 H2 ρ' hR (x1.trans x2) e2⟩⟩
theorem wp_and1 (h : TP' X a ρ R) : WP' X (.BoolOp .And [a] pos) ρ R := pw_and1 h
theorem wp_and_t (ha : TD X a ρ true ρ1) (hb : WP' X (.BoolOp .And (b :: restE) pos) ρ1 R) : WP' X (.BoolOp .And (a :: b :: restE) pos) ρ R :=
  PW_imp (pw_and ha hb) fun σ H Q ⟨C, F, se, q⟩ => ⟨C, F, se, fun F1 H1 x1 e1 => by
    refine iteT ?_
    exact ⟨C, F1, e1, fun k F2 H2 ρ' hR x2 e2 => q k F2 H2 ρ' hR (x1.trans x2) e2⟩⟩
theorem tp_w (h : WP' X e ρ R) : TP' X e ρ R := h.pt
theorem tp_imp {R' : Bool → En → Prop} (h : TP' X e ρ R) (i : ∀ k r, R k r → R' k r) : TP' X e ρ R' := PT_imp h fun σ H Q ⟨C, F, se, q⟩ => ⟨C, F, se, fun k F1 H1 ρ' hR x1 e1 => q k F1 H1 ρ' (i k ρ' hR) x1 e1⟩
/-- a guard that does not end it -/
theorem bd_guardP (hc : TP' X c ρ R) (hk : ∀ k r, R k r → k = false) (hb : ∀ r, R false r → BD X W rest r D) : BD X W (.If c A [] pos :: rest) ρ D := by
  have nv : PSs X A (fun _ _ _ => False) := ⟨fun _ _ _ _ _ _ h => h.elim⟩
  have h1 : SD X W (.If c A [] pos) ρ { D with nx := fun r => R false r } := PS_imp (ps_if hc nv (pss_nil (X := X))) fun E σ H ⟨C, F, se, cv⟩ => ⟨C, F, se, fun k F1 H1 ρ' hR x1 e1 => by
    have z := hk k ρ' hR
    subst z
    refine iteF ?_
    exact cv.nx _ F1 H1 _ hR e1⟩
  exact bd_cut (fun r => R false r) h1 hb
end
theorem nice_opt2 {α : Type} {d : Nat} {f : α → PyData} {o : Option α} (h : ∀ a, o = some a → Nice d (f a)) : Nice d (dO f o) := by
  cases o with
  | none => exact .non
  | some a => exact h a rfl
end G

namespace GP
open PySem PySem.Spec PyProof.Rows L2 G
/-! ### the text -/
def topS (i : Nat) : Stmt := PySem.Challenge.pw_grainhaul_k79_raised_mixed_and_better_so.main.body.getD i (.Pass ⟨0, 0, 0, 0⟩)
abbrev s__law_draw : Stmt := topS 27
abbrev n__law_draw : List Str := [("pool" : Str), ("many" : Str), ("found" : Str), ("cell" : Str), ("blend" : Str)]
theorem sc__law_draw : FnScope n__law_draw [("pool" : Str), ("many" : Str)] (defScope s__law_draw) := ⟨rfl, rfl, rfl, by decide +kernel, rfl, by decide +kernel, by decide +kernel⟩
def d__law_draw : He.DefD := ⟨("_law_draw", none), "_law_draw", "_law_draw", defArgs s__law_draw, defBody s__law_draw, defScope s__law_draw, [], []⟩
abbrev s__law_pick : Stmt := topS 28
abbrev n__law_pick : List Str := [("pool" : Str), ("rows" : Str)]
theorem sc__law_pick : FnScope n__law_pick [("pool" : Str), ("rows" : Str)] (defScope s__law_pick) := ⟨rfl, rfl, rfl, by decide +kernel, rfl, by decide +kernel, by decide +kernel⟩
def d__law_pick : He.DefD := ⟨("_law_pick", none), "_law_pick", "_law_pick", defArgs s__law_pick, defBody s__law_pick, defScope s__law_pick, [], []⟩
abbrev s__law_amounts : Stmt := topS 29
abbrev n__law_amounts : List Str := [("pool" : Str), ("many" : Str), ("wide" : Str), ("k" : Str)]
theorem sc__law_amounts : FnScope n__law_amounts [("pool" : Str), ("many" : Str)] (defScope s__law_amounts) := ⟨rfl, rfl, rfl, by decide +kernel, rfl, by decide +kernel, by decide +kernel⟩
def d__law_amounts : He.DefD := ⟨("_law_amounts", none), "_law_amounts", "_law_amounts", defArgs s__law_amounts, defBody s__law_amounts, defScope s__law_amounts, [], []⟩
abbrev s__law_given : Stmt := topS 31
abbrev n__law_given : List Str := [("has" : Str), ("asks" : Str), ("left" : Str), ("found" : Str), ("k" : Str), ("asked" : Str), ("load" : Str), ("good" : Str), ("sort" : Str), ("pair" : Str)]
theorem sc__law_given : FnScope n__law_given [("has" : Str), ("asks" : Str)] (defScope s__law_given) := ⟨rfl, rfl, rfl, by decide +kernel, rfl, by decide +kernel, by decide +kernel⟩
def d__law_given : He.DefD := ⟨("_law_given", none), "_law_given", "_law_given", defArgs s__law_given, defBody s__law_given, defScope s__law_given, [], []⟩
abbrev s__law_least : Stmt := topS 33
abbrev n__law_least : List Str := [("has" : Str), ("asks" : Str), ("states" : Str), ("k" : Str), ("asked" : Str), ("load" : Str), ("longer" : Str), ("left" : Str), ("sort" : Str), ("rest" : Str), ("total" : Str)]
theorem sc__law_least : FnScope n__law_least [("has" : Str), ("asks" : Str)] (defScope s__law_least) := ⟨rfl, rfl, rfl, by decide +kernel, rfl, by decide +kernel, by decide +kernel⟩
def d__law_least : He.DefD := ⟨("_law_least", none), "_law_least", "_law_least", defArgs s__law_least, defBody s__law_least, defScope s__law_least, [], []⟩
abbrev s__law_lowered : Stmt := topS 34
abbrev n__law_lowered : List Str := [("one" : Str), ("other" : Str), ("left" : Str), ("found" : Str), ("k" : Str), ("sort" : Str), ("more" : Str)]
theorem sc__law_lowered : FnScope n__law_lowered [("one" : Str), ("other" : Str)] (defScope s__law_lowered) := ⟨rfl, rfl, rfl, by decide +kernel, rfl, by decide +kernel, by decide +kernel⟩
def d__law_lowered : He.DefD := ⟨("_law_lowered", none), "_law_lowered", "_law_lowered", defArgs s__law_lowered, defBody s__law_lowered, defScope s__law_lowered, [], []⟩
abbrev s_is_number : Stmt := topS 8
abbrev n_is_number : List Str := [("value" : Str), ("least" : Str), ("most" : Str)]
theorem sc_is_number : FnScope n_is_number [("value" : Str), ("least" : Str), ("most" : Str)] (defScope s_is_number) := ⟨rfl, rfl, rfl, by decide +kernel, rfl, by decide +kernel, by decide +kernel⟩
def d_is_number : He.DefD := ⟨("is_number", none), "is_number", "is_number", defArgs s_is_number, defBody s_is_number, defScope s_is_number, [.int 0, .int 1000000], []⟩
abbrev s_checked_number : Stmt := topS 9
abbrev n_checked_number : List Str := [("value" : Str), ("least" : Str), ("most" : Str)]
theorem sc_checked_number : FnScope n_checked_number [("value" : Str), ("least" : Str), ("most" : Str)] (defScope s_checked_number) := ⟨rfl, rfl, rfl, by decide +kernel, rfl, by decide +kernel, by decide +kernel⟩
def d_checked_number : He.DefD := ⟨("checked_number", none), "checked_number", "checked_number", defArgs s_checked_number, defBody s_checked_number, defScope s_checked_number, [.int 0, .int 1000000], []⟩
abbrev s_checked_amounts : Stmt := topS 12
abbrev n_checked_amounts : List Str := [("amounts" : Str), ("amount" : Str)]
theorem sc_checked_amounts : FnScope n_checked_amounts [("amounts" : Str)] (defScope s_checked_amounts) := ⟨rfl, rfl, rfl, by decide +kernel, rfl, by decide +kernel, by decide +kernel⟩
def d_checked_amounts : He.DefD := ⟨("checked_amounts", none), "checked_amounts", "checked_amounts", defArgs s_checked_amounts, defBody s_checked_amounts, defScope s_checked_amounts, [], []⟩
abbrev s_checked_pair : Stmt := topS 13
abbrev n_checked_pair : List Str := [("has" : Str), ("asks" : Str), ("first" : Str), ("second" : Str)]
theorem sc_checked_pair : FnScope n_checked_pair [("has" : Str), ("asks" : Str)] (defScope s_checked_pair) := ⟨rfl, rfl, rfl, by decide +kernel, rfl, by decide +kernel, by decide +kernel⟩
def d_checked_pair : He.DefD := ⟨("checked_pair", none), "checked_pair", "checked_pair", defArgs s_checked_pair, defBody s_checked_pair, defScope s_checked_pair, [], []⟩
abbrev s_allotted : Stmt := topS 16
abbrev n_allotted : List Str := [("has" : Str), ("asks" : Str), ("left" : Str), ("second" : Str), ("found" : Str), ("asked" : Str), ("need" : Str), ("sort" : Str), ("part" : Str)]
theorem sc_allotted : FnScope n_allotted [("has" : Str), ("asks" : Str)] (defScope s_allotted) := ⟨rfl, rfl, rfl, by decide +kernel, rfl, by decide +kernel, by decide +kernel⟩
def d_allotted : He.DefD := ⟨("allotted", none), "allotted", "allotted", defArgs s_allotted, defBody s_allotted, defScope s_allotted, [], []⟩
abbrev s_over : Stmt := topS 14
abbrev n_over : List Str := [("has" : Str), ("asks" : Str), ("first" : Str), ("second" : Str), ("sort" : Str)]
theorem sc_over : FnScope n_over [("has" : Str), ("asks" : Str)] (defScope s_over) := ⟨rfl, rfl, rfl, by decide +kernel, rfl, by decide +kernel, by decide +kernel⟩
def d_over : He.DefD := ⟨("over", none), "over", "over", defArgs s_over, defBody s_over, defScope s_over, [], []⟩
abbrev s_fits : Stmt := topS 15
abbrev n_fits : List Str := [("has" : Str), ("asks" : Str), ("number" : Str)]
theorem sc_fits : FnScope n_fits [("has" : Str), ("asks" : Str)] (defScope s_fits) := ⟨rfl, rfl, rfl, by decide +kernel, rfl, by decide +kernel, by decide +kernel⟩
def d_fits : He.DefD := ⟨("fits", none), "fits", "fits", defArgs s_fits, defBody s_fits, defScope s_fits, [], []⟩
abbrev s_raised : Stmt := topS 17
abbrev n_raised : List Str := [("told" : Str), ("sort" : Str), ("asked" : Str), ("loads" : Str)]
theorem sc_raised : FnScope n_raised [("told" : Str)] (defScope s_raised) := ⟨rfl, rfl, rfl, by decide +kernel, rfl, by decide +kernel, by decide +kernel⟩
def d_raised : He.DefD := ⟨("raised", none), "raised", "raised", defArgs s_raised, defBody s_raised, defScope s_raised, [], []⟩
abbrev s_least_raised : Stmt := topS 18
abbrev n_least_raised : List Str := [("has" : Str), ("asks" : Str), ("first" : Str), ("second" : Str)]
theorem sc_least_raised : FnScope n_least_raised [("has" : Str), ("asks" : Str)] (defScope s_least_raised) := ⟨rfl, rfl, rfl, by decide +kernel, rfl, by decide +kernel, by decide +kernel⟩
def d_least_raised : He.DefD := ⟨("least_raised", none), "least_raised", "least_raised", defArgs s_least_raised, defBody s_least_raised, defScope s_least_raised, [], []⟩
abbrev s_mixed : Stmt := topS 20
abbrev n_mixed : List Str := [("has" : Str), ("low" : Str), ("high" : Str), ("loads" : Str), ("first" : Str)]
theorem sc_mixed : FnScope n_mixed [("has" : Str), ("low" : Str), ("high" : Str), ("loads" : Str)] (defScope s_mixed) := ⟨rfl, rfl, rfl, by decide +kernel, rfl, by decide +kernel, by decide +kernel⟩
def d_mixed : He.DefD := ⟨("mixed", none), "mixed", "mixed", defArgs s_mixed, defBody s_mixed, defScope s_mixed, [], []⟩
abbrev s_most_asked : Stmt := topS 23
abbrev n_most_asked : List Str := [("has" : Str), ("asks" : Str), ("sort" : Str), ("first" : Str), ("second" : Str), ("rows" : Str), ("room" : Str)]
theorem sc_most_asked : FnScope n_most_asked [("has" : Str), ("asks" : Str), ("sort" : Str)] (defScope s_most_asked) := ⟨rfl, rfl, rfl, by decide +kernel, rfl, by decide +kernel, by decide +kernel⟩
def d_most_asked : He.DefD := ⟨("most_asked", none), "most_asked", "most_asked", defArgs s_most_asked, defBody s_most_asked, defScope s_most_asked, [], []⟩
abbrev s_is_better : Stmt := topS 21
abbrev n_is_better : List Str := [("one" : Str), ("other" : Str), ("first" : Str), ("second" : Str), ("sort" : Str)]
theorem sc_is_better : FnScope n_is_better [("one" : Str), ("other" : Str)] (defScope s_is_better) := ⟨rfl, rfl, rfl, by decide +kernel, rfl, by decide +kernel, by decide +kernel⟩
def d_is_better : He.DefD := ⟨("is_better", none), "is_better", "is_better", defArgs s_is_better, defBody s_is_better, defScope s_is_better, [], []⟩
abbrev s_steps : Stmt := topS 22
abbrev n_steps : List Str := [("one" : Str), ("other" : Str), ("found" : Str), ("sort" : Str), ("more" : Str)]
theorem sc_steps : FnScope n_steps [("one" : Str), ("other" : Str)] (defScope s_steps) := ⟨rfl, rfl, rfl, by decide +kernel, rfl, by decide +kernel, by decide +kernel⟩
def d_steps : He.DefD := ⟨("steps", none), "steps", "steps", defArgs s_steps, defBody s_steps, defScope s_steps, [], []⟩
abbrev s__law_refused : Stmt := topS 35
abbrev n__law_refused : List Str := [("choice" : Str), ("has" : Str), ("asks" : Str), ("one" : Str), ("two" : Str), ("problem" : Str)]
theorem sc__law_refused : FnScope n__law_refused [("choice" : Str), ("has" : Str), ("asks" : Str), ("one" : Str), ("two" : Str)] (defScope s__law_refused) := ⟨rfl, rfl, rfl, by decide +kernel, rfl, by decide +kernel, by decide +kernel⟩
def d__law_refused : He.DefD := ⟨("_law_refused", none), "_law_refused", "_law_refused", defArgs s__law_refused, defBody s__law_refused, defScope s__law_refused, [], []⟩
abbrev s__law_same : Stmt := topS 25
abbrev n__law_same : List Str := [("actual" : Str), ("due" : Str), ("k" : Str)]
theorem sc__law_same : FnScope n__law_same [("actual" : Str), ("due" : Str)] (defScope s__law_same) := ⟨rfl, rfl, rfl, by decide +kernel, rfl, by decide +kernel, by decide +kernel⟩
def d__law_same : He.DefD := ⟨("_law_same", none), "_law_same", "_law_same", defArgs s__law_same, defBody s__law_same, defScope s__law_same, [], []⟩
abbrev s__law_mixed_right : Stmt := topS 36
abbrev n__law_mixed_right : List Str := [("pool" : Str), ("has" : Str), ("many" : Str), ("low" : Str), ("high" : Str), ("loads" : Str), ("due" : Str)]
theorem sc__law_mixed_right : FnScope n__law_mixed_right [("pool" : Str), ("has" : Str)] (defScope s__law_mixed_right) := ⟨rfl, rfl, rfl, by decide +kernel, rfl, by decide +kernel, by decide +kernel⟩
def d__law_mixed_right : He.DefD := ⟨("_law_mixed_right", none), "_law_mixed_right", "_law_mixed_right", defArgs s__law_mixed_right, defBody s__law_mixed_right, defScope s__law_mixed_right, [], []⟩
abbrev s__law_over : Stmt := topS 30
abbrev n__law_over : List Str := [("has" : Str), ("asks" : Str), ("k" : Str)]
theorem sc__law_over : FnScope n__law_over [("has" : Str), ("asks" : Str)] (defScope s__law_over) := ⟨rfl, rfl, rfl, by decide +kernel, rfl, by decide +kernel, by decide +kernel⟩
def d__law_over : He.DefD := ⟨("_law_over", none), "_law_over", "_law_over", defArgs s__law_over, defBody s__law_over, defScope s__law_over, [], []⟩
abbrev s__law_pool : Stmt := topS 26
abbrev n__law_pool : List Str := [("script" : Str)]
theorem sc__law_pool : FnScope n__law_pool [("script" : Str)] (defScope s__law_pool) := ⟨rfl, rfl, rfl, by decide +kernel, rfl, by decide +kernel, by decide +kernel⟩
def d__law_pool : He.DefD := ⟨("_law_pool", none), "_law_pool", "_law_pool", defArgs s__law_pool, defBody s__law_pool, defScope s__law_pool, [], []⟩
abbrev s_kept : Stmt := topS 19
abbrev n_kept : List Str := [("has" : Str), ("asks" : Str), ("first" : Str), ("sort" : Str), ("asked" : Str), ("loads" : Str)]
theorem sc_kept : FnScope n_kept [("has" : Str), ("asks" : Str)] (defScope s_kept) := ⟨rfl, rfl, rfl, by decide +kernel, rfl, by decide +kernel, by decide +kernel⟩
def d_kept : He.DefD := ⟨("kept", none), "kept", "kept", defArgs s_kept, defBody s_kept, defScope s_kept, [], []⟩
abbrev s_law : Stmt := topS 37
abbrev n_law : List Str := [("script" : Str), ("pool" : Str), ("many" : Str), ("has" : Str), ("amount" : Str), ("asks" : Str), ("rows" : Str), ("due" : Str), ("row" : Str), ("left" : Str), ("k" : Str), ("least" : Str), ("sort" : Str), ("most" : Str), ("trial" : Str), ("one" : Str), ("other" : Str), ("j" : Str), ("at" : Str), ("to" : Str), ("told" : Str)]
theorem sc_law : FnScope n_law [("script" : Str)] (defScope s_law) := ⟨rfl, rfl, rfl, by decide +kernel, rfl, by decide +kernel, by decide +kernel⟩
def d_law : He.DefD := ⟨("law", none), "law", "law", defArgs s_law, defBody s_law, defScope s_law, [], []⟩
def fn : List He.DefD := [d__law_draw, d__law_pick, d__law_amounts, d__law_given, d__law_least, d__law_lowered, d_is_number, d_checked_number, d_checked_amounts, d_checked_pair, d_allotted, d_over, d_fits, d_raised, d_least_raised, d_mixed, d_most_asked, d_is_better, d_steps, d__law_refused, d__law_same, d__law_mixed_right, d__law_over, d__law_pool, d_kept, d_law]
def fA : List He.Fa := [.glo "_law_draw", .glo "_law_pick", .glo "_law_amounts", .glo "_law_given", .glo "_law_least", .glo "_law_lowered", .glo "is_number", .glo "checked_number", .glo "checked_amounts", .glo "checked_pair", .glo "allotted", .glo "over", .glo "fits", .glo "raised", .glo "least_raised", .glo "mixed", .glo "most_asked", .glo "is_better", .glo "steps", .glo "_law_refused", .glo "_law_same", .glo "_law_mixed_right", .glo "_law_over", .glo "_law_pool", .glo "kept", .glo "law", .free "ValueError", .free "abs", .free "all", .free "bool", .free "int", .free "isinstance", .free "len", .free "list", .free "min", .free "range", .free "sorted", .free "str", .free "sum", .free "tuple", .int "GREATEST" (1000000), .int "MOST" (40), .glo "NotNow", .exc "GrainError", .glo "GrainError", .exc "InvalidNumber", .glo "InvalidNumber", .exc "InvalidPaper", .glo "InvalidPaper", .exc "TooMany", .glo "TooMany"]
abbrev fileS : Str := "/claim/cut.py"
def exL (K : PySem.W.Frag) : List Bool := [decide (PySem.W.findIn K (.ref (He.ga K "InvalidNumber")) "__getattribute__" = some (some (.builtin "BaseException.__getattribute__"))), decide (PySem.W.findIn K (.ref (He.ga K "InvalidNumber")) "__getattr__" = some none), decide (PySem.W.subIn K (.ref (He.ga K "InvalidNumber")) (.type "BaseException") = some true), PySem.W.hasDictIn K (He.ga K "InvalidNumber"), decide (PySem.W.findIn K (.ref (He.ga K "InvalidNumber")) "__class__" = some (some (.builtin "object.__class__"))), decide (PySem.W.specialIn K (.builtin "object.__class__") "__get__" = some (some (.builtin "getset_descriptor.__get__"))), decide (PySem.W.takesIn K (.builtin "object.__class__") = some true), decide (PySem.W.mroIn K (He.ga K "InvalidNumber") (.type "object") = some true), decide (PySem.W.findIn K (.ref (He.ga K "InvalidPaper")) "__getattribute__" = some (some (.builtin "BaseException.__getattribute__"))), decide (PySem.W.findIn K (.ref (He.ga K "InvalidPaper")) "__getattr__" = some none), decide (PySem.W.subIn K (.ref (He.ga K "InvalidPaper")) (.type "BaseException") = some true), PySem.W.hasDictIn K (He.ga K "InvalidPaper"), decide (PySem.W.findIn K (.ref (He.ga K "InvalidPaper")) "__class__" = some (some (.builtin "object.__class__"))), decide (PySem.W.specialIn K (.builtin "object.__class__") "__get__" = some (some (.builtin "getset_descriptor.__get__"))), decide (PySem.W.takesIn K (.builtin "object.__class__") = some true), decide (PySem.W.mroIn K (He.ga K "InvalidPaper") (.type "object") = some true), decide (PySem.W.findIn K (.ref (He.ga K "NotNow")) "__getattribute__" = some (some (.builtin "BaseException.__getattribute__"))), decide (PySem.W.findIn K (.ref (He.ga K "NotNow")) "__getattr__" = some none), decide (PySem.W.subIn K (.ref (He.ga K "NotNow")) (.type "BaseException") = some true), PySem.W.hasDictIn K (He.ga K "NotNow"), decide (PySem.W.findIn K (.ref (He.ga K "NotNow")) "__class__" = some (some (.builtin "object.__class__"))), decide (PySem.W.specialIn K (.builtin "object.__class__") "__get__" = some (some (.builtin "getset_descriptor.__get__"))), decide (PySem.W.takesIn K (.builtin "object.__class__") = some true), decide (PySem.W.mroIn K (He.ga K "NotNow") (.type "object") = some true), decide (PySem.W.findIn K (.ref (He.ga K "TooMany")) "__getattribute__" = some (some (.builtin "BaseException.__getattribute__"))), decide (PySem.W.findIn K (.ref (He.ga K "TooMany")) "__getattr__" = some none), decide (PySem.W.subIn K (.ref (He.ga K "TooMany")) (.type "BaseException") = some true), PySem.W.hasDictIn K (He.ga K "TooMany"), decide (PySem.W.findIn K (.ref (He.ga K "TooMany")) "__class__" = some (some (.builtin "object.__class__"))), decide (PySem.W.specialIn K (.builtin "object.__class__") "__get__" = some (some (.builtin "getset_descriptor.__get__"))), decide (PySem.W.takesIn K (.builtin "object.__class__") = some true), decide (PySem.W.mroIn K (He.ga K "TooMany") (.type "object") = some true), decide (PySem.W.exmOne K (.ref (He.ga K "InvalidNumber")) (.ref (He.ga K "GrainError")) = some true), decide (PySem.W.exmOne K (.ref (He.ga K "InvalidNumber")) (.ref (He.ga K "NotNow")) = some false), decide (PySem.W.kitOne K (.ref (He.ga K "InvalidNumber")) (.ref (He.ga K "InvalidNumber")) = some true), decide (PySem.W.kitOne K (.ref (He.ga K "InvalidNumber")) (.ref (He.ga K "InvalidPaper")) = some false), decide (PySem.W.kitOne K (.ref (He.ga K "InvalidNumber")) (.type "ValueError") = some true), decide (PySem.W.exmOne K (.ref (He.ga K "InvalidPaper")) (.ref (He.ga K "GrainError")) = some true), decide (PySem.W.exmOne K (.ref (He.ga K "InvalidPaper")) (.ref (He.ga K "NotNow")) = some false), decide (PySem.W.kitOne K (.ref (He.ga K "InvalidPaper")) (.ref (He.ga K "InvalidNumber")) = some false), decide (PySem.W.kitOne K (.ref (He.ga K "InvalidPaper")) (.ref (He.ga K "InvalidPaper")) = some true), decide (PySem.W.kitOne K (.ref (He.ga K "InvalidPaper")) (.type "ValueError") = some true), decide (PySem.W.exmOne K (.ref (He.ga K "NotNow")) (.ref (He.ga K "GrainError")) = some true), decide (PySem.W.exmOne K (.ref (He.ga K "NotNow")) (.ref (He.ga K "NotNow")) = some true), decide (PySem.W.kitOne K (.ref (He.ga K "NotNow")) (.ref (He.ga K "InvalidNumber")) = some false), decide (PySem.W.kitOne K (.ref (He.ga K "NotNow")) (.ref (He.ga K "InvalidPaper")) = some false), decide (PySem.W.kitOne K (.ref (He.ga K "NotNow")) (.type "ValueError") = some true), decide (PySem.W.exmOne K (.ref (He.ga K "TooMany")) (.ref (He.ga K "GrainError")) = some true), decide (PySem.W.exmOne K (.ref (He.ga K "TooMany")) (.ref (He.ga K "NotNow")) = some false), decide (PySem.W.kitOne K (.ref (He.ga K "TooMany")) (.ref (He.ga K "InvalidNumber")) = some false), decide (PySem.W.kitOne K (.ref (He.ga K "TooMany")) (.ref (He.ga K "InvalidPaper")) = some false), decide (PySem.W.kitOne K (.ref (He.ga K "TooMany")) (.type "ValueError") = some true), nnB K (He.ga K "NotNow") "reason" fileS]
def exB (K : PySem.W.Frag) : Bool := (exL K).all fun b => b
/-- what the top has written -/
structure Py (P : Program) (K : PySem.W.Frag) (mg : Str → Option Value) : Prop where
  d__law_draw : ∃ fd, FunD K "_law_draw" "_law_draw" (defArgs s__law_draw) (defBody s__law_draw) (defScope s__law_draw) [] [] (He.ga K "_law_draw") fd
  g__law_draw : mg "_law_draw" = some (.ref (He.ga K "_law_draw"))
  d__law_pick : ∃ fd, FunD K "_law_pick" "_law_pick" (defArgs s__law_pick) (defBody s__law_pick) (defScope s__law_pick) [] [] (He.ga K "_law_pick") fd
  g__law_pick : mg "_law_pick" = some (.ref (He.ga K "_law_pick"))
  d__law_amounts : ∃ fd, FunD K "_law_amounts" "_law_amounts" (defArgs s__law_amounts) (defBody s__law_amounts) (defScope s__law_amounts) [] [] (He.ga K "_law_amounts") fd
  g__law_amounts : mg "_law_amounts" = some (.ref (He.ga K "_law_amounts"))
  d__law_given : ∃ fd, FunD K "_law_given" "_law_given" (defArgs s__law_given) (defBody s__law_given) (defScope s__law_given) [] [] (He.ga K "_law_given") fd
  g__law_given : mg "_law_given" = some (.ref (He.ga K "_law_given"))
  d__law_least : ∃ fd, FunD K "_law_least" "_law_least" (defArgs s__law_least) (defBody s__law_least) (defScope s__law_least) [] [] (He.ga K "_law_least") fd
  g__law_least : mg "_law_least" = some (.ref (He.ga K "_law_least"))
  d__law_lowered : ∃ fd, FunD K "_law_lowered" "_law_lowered" (defArgs s__law_lowered) (defBody s__law_lowered) (defScope s__law_lowered) [] [] (He.ga K "_law_lowered") fd
  g__law_lowered : mg "_law_lowered" = some (.ref (He.ga K "_law_lowered"))
  d_is_number : ∃ fd, FunD K "is_number" "is_number" (defArgs s_is_number) (defBody s_is_number) (defScope s_is_number) [.int 0, .int 1000000] [] (He.ga K "is_number") fd
  g_is_number : mg "is_number" = some (.ref (He.ga K "is_number"))
  d_checked_number : ∃ fd, FunD K "checked_number" "checked_number" (defArgs s_checked_number) (defBody s_checked_number) (defScope s_checked_number) [.int 0, .int 1000000] [] (He.ga K "checked_number") fd
  g_checked_number : mg "checked_number" = some (.ref (He.ga K "checked_number"))
  d_checked_amounts : ∃ fd, FunD K "checked_amounts" "checked_amounts" (defArgs s_checked_amounts) (defBody s_checked_amounts) (defScope s_checked_amounts) [] [] (He.ga K "checked_amounts") fd
  g_checked_amounts : mg "checked_amounts" = some (.ref (He.ga K "checked_amounts"))
  d_checked_pair : ∃ fd, FunD K "checked_pair" "checked_pair" (defArgs s_checked_pair) (defBody s_checked_pair) (defScope s_checked_pair) [] [] (He.ga K "checked_pair") fd
  g_checked_pair : mg "checked_pair" = some (.ref (He.ga K "checked_pair"))
  d_allotted : ∃ fd, FunD K "allotted" "allotted" (defArgs s_allotted) (defBody s_allotted) (defScope s_allotted) [] [] (He.ga K "allotted") fd
  g_allotted : mg "allotted" = some (.ref (He.ga K "allotted"))
  d_over : ∃ fd, FunD K "over" "over" (defArgs s_over) (defBody s_over) (defScope s_over) [] [] (He.ga K "over") fd
  g_over : mg "over" = some (.ref (He.ga K "over"))
  d_fits : ∃ fd, FunD K "fits" "fits" (defArgs s_fits) (defBody s_fits) (defScope s_fits) [] [] (He.ga K "fits") fd
  g_fits : mg "fits" = some (.ref (He.ga K "fits"))
  d_raised : ∃ fd, FunD K "raised" "raised" (defArgs s_raised) (defBody s_raised) (defScope s_raised) [] [] (He.ga K "raised") fd
  g_raised : mg "raised" = some (.ref (He.ga K "raised"))
  d_least_raised : ∃ fd, FunD K "least_raised" "least_raised" (defArgs s_least_raised) (defBody s_least_raised) (defScope s_least_raised) [] [] (He.ga K "least_raised") fd
  g_least_raised : mg "least_raised" = some (.ref (He.ga K "least_raised"))
  d_mixed : ∃ fd, FunD K "mixed" "mixed" (defArgs s_mixed) (defBody s_mixed) (defScope s_mixed) [] [] (He.ga K "mixed") fd
  g_mixed : mg "mixed" = some (.ref (He.ga K "mixed"))
  d_most_asked : ∃ fd, FunD K "most_asked" "most_asked" (defArgs s_most_asked) (defBody s_most_asked) (defScope s_most_asked) [] [] (He.ga K "most_asked") fd
  g_most_asked : mg "most_asked" = some (.ref (He.ga K "most_asked"))
  d_is_better : ∃ fd, FunD K "is_better" "is_better" (defArgs s_is_better) (defBody s_is_better) (defScope s_is_better) [] [] (He.ga K "is_better") fd
  g_is_better : mg "is_better" = some (.ref (He.ga K "is_better"))
  d_steps : ∃ fd, FunD K "steps" "steps" (defArgs s_steps) (defBody s_steps) (defScope s_steps) [] [] (He.ga K "steps") fd
  g_steps : mg "steps" = some (.ref (He.ga K "steps"))
  d__law_refused : ∃ fd, FunD K "_law_refused" "_law_refused" (defArgs s__law_refused) (defBody s__law_refused) (defScope s__law_refused) [] [] (He.ga K "_law_refused") fd
  g__law_refused : mg "_law_refused" = some (.ref (He.ga K "_law_refused"))
  d__law_same : ∃ fd, FunD K "_law_same" "_law_same" (defArgs s__law_same) (defBody s__law_same) (defScope s__law_same) [] [] (He.ga K "_law_same") fd
  g__law_same : mg "_law_same" = some (.ref (He.ga K "_law_same"))
  d__law_mixed_right : ∃ fd, FunD K "_law_mixed_right" "_law_mixed_right" (defArgs s__law_mixed_right) (defBody s__law_mixed_right) (defScope s__law_mixed_right) [] [] (He.ga K "_law_mixed_right") fd
  g__law_mixed_right : mg "_law_mixed_right" = some (.ref (He.ga K "_law_mixed_right"))
  d__law_over : ∃ fd, FunD K "_law_over" "_law_over" (defArgs s__law_over) (defBody s__law_over) (defScope s__law_over) [] [] (He.ga K "_law_over") fd
  g__law_over : mg "_law_over" = some (.ref (He.ga K "_law_over"))
  d__law_pool : ∃ fd, FunD K "_law_pool" "_law_pool" (defArgs s__law_pool) (defBody s__law_pool) (defScope s__law_pool) [] [] (He.ga K "_law_pool") fd
  g__law_pool : mg "_law_pool" = some (.ref (He.ga K "_law_pool"))
  d_kept : ∃ fd, FunD K "kept" "kept" (defArgs s_kept) (defBody s_kept) (defScope s_kept) [] [] (He.ga K "kept") fd
  g_kept : mg "kept" = some (.ref (He.ga K "kept"))
  d_law : ∃ fd, FunD K "law" "law" (defArgs s_law) (defBody s_law) (defScope s_law) [] [] (He.ga K "law") fd
  g_law : mg "law" = some (.ref (He.ga K "law"))
  z_ValueError : mg ("ValueError" : Str) = none
  z_abs : mg ("abs" : Str) = none
  z_all : mg ("all" : Str) = none
  z_bool : mg ("bool" : Str) = none
  z_int : mg ("int" : Str) = none
  z_isinstance : mg ("isinstance" : Str) = none
  z_len : mg ("len" : Str) = none
  z_list : mg ("list" : Str) = none
  z_min : mg ("min" : Str) = none
  z_range : mg ("range" : Str) = none
  z_sorted : mg ("sorted" : Str) = none
  z_str : mg ("str" : Str) = none
  z_sum : mg ("sum" : Str) = none
  z_tuple : mg ("tuple" : Str) = none
  i_GREATEST : ∃ t, mg ("GREATEST" : Str) = some (.int (1000000) t)
  i_MOST : ∃ t, mg ("MOST" : Str) = some (.int (40) t)
  x_GrainError : XC K mg "GrainError"
  x_InvalidNumber : XC K mg "InvalidNumber"
  x_InvalidPaper : XC K mg "InvalidPaper"
  x_TooMany : XC K mg "TooMany"
  e_InvalidNumber : ExcC K (He.ga K "InvalidNumber")
  e_InvalidPaper : ExcC K (He.ga K "InvalidPaper")
  e_NotNow : ExcC K (He.ga K "NotNow")
  e_TooMany : ExcC K (He.ga K "TooMany")
  m_InvalidNumber_GrainError : PySem.W.exmOne K (.ref (He.ga K "InvalidNumber")) (.ref (He.ga K "GrainError")) = some true
  m_InvalidNumber_NotNow : PySem.W.exmOne K (.ref (He.ga K "InvalidNumber")) (.ref (He.ga K "NotNow")) = some false
  k_InvalidNumber_InvalidNumber : PySem.W.kitOne K (.ref (He.ga K "InvalidNumber")) (.ref (He.ga K "InvalidNumber")) = some true
  k_InvalidNumber_InvalidPaper : PySem.W.kitOne K (.ref (He.ga K "InvalidNumber")) (.ref (He.ga K "InvalidPaper")) = some false
  k_InvalidNumber_ValueError : PySem.W.kitOne K (.ref (He.ga K "InvalidNumber")) (.type "ValueError") = some true
  m_InvalidPaper_GrainError : PySem.W.exmOne K (.ref (He.ga K "InvalidPaper")) (.ref (He.ga K "GrainError")) = some true
  m_InvalidPaper_NotNow : PySem.W.exmOne K (.ref (He.ga K "InvalidPaper")) (.ref (He.ga K "NotNow")) = some false
  k_InvalidPaper_InvalidNumber : PySem.W.kitOne K (.ref (He.ga K "InvalidPaper")) (.ref (He.ga K "InvalidNumber")) = some false
  k_InvalidPaper_InvalidPaper : PySem.W.kitOne K (.ref (He.ga K "InvalidPaper")) (.ref (He.ga K "InvalidPaper")) = some true
  k_InvalidPaper_ValueError : PySem.W.kitOne K (.ref (He.ga K "InvalidPaper")) (.type "ValueError") = some true
  m_NotNow_GrainError : PySem.W.exmOne K (.ref (He.ga K "NotNow")) (.ref (He.ga K "GrainError")) = some true
  m_NotNow_NotNow : PySem.W.exmOne K (.ref (He.ga K "NotNow")) (.ref (He.ga K "NotNow")) = some true
  k_NotNow_InvalidNumber : PySem.W.kitOne K (.ref (He.ga K "NotNow")) (.ref (He.ga K "InvalidNumber")) = some false
  k_NotNow_InvalidPaper : PySem.W.kitOne K (.ref (He.ga K "NotNow")) (.ref (He.ga K "InvalidPaper")) = some false
  k_NotNow_ValueError : PySem.W.kitOne K (.ref (He.ga K "NotNow")) (.type "ValueError") = some true
  m_TooMany_GrainError : PySem.W.exmOne K (.ref (He.ga K "TooMany")) (.ref (He.ga K "GrainError")) = some true
  m_TooMany_NotNow : PySem.W.exmOne K (.ref (He.ga K "TooMany")) (.ref (He.ga K "NotNow")) = some false
  k_TooMany_InvalidNumber : PySem.W.kitOne K (.ref (He.ga K "TooMany")) (.ref (He.ga K "InvalidNumber")) = some false
  k_TooMany_InvalidPaper : PySem.W.kitOne K (.ref (He.ga K "TooMany")) (.ref (He.ga K "InvalidPaper")) = some false
  k_TooMany_ValueError : PySem.W.kitOne K (.ref (He.ga K "TooMany")) (.type "ValueError") = some true
  g_NotNow : mg ("NotNow" : Str) = some (.ref (He.ga K "NotNow"))
  n_NotNow : NN P K mg "NotNow" "reason"
theorem py_of {P : Program} (hP : (P.main.file == fileS) = true) (hT : (P.main.scope.names.lookup ("super" : Str)).isSome = false) {w : World} {K : PySem.W.Frag} {h : Heap} {mg : Str → Option Value} (X : K.In h) (G : h.Ns mainGlobals mg) (cx : He.SaysX fA fn [] [] exB w h K) : Py P K mg := by
  have c := cx.t.d
  have m : ∀ (i : Nat) (b : Bool), (exL K)[i]? = some b → b = true := fun i b e => List.all_eq_true.mp cx.more b (List.mem_of_getElem? e)
  exact {
  d__law_draw := c.def_ 0 (d := d__law_draw) rfl
  g__law_draw := He.glo_ok X G (c.fact 0 (f := .glo "_law_draw") rfl)
  d__law_pick := c.def_ 1 (d := d__law_pick) rfl
  g__law_pick := He.glo_ok X G (c.fact 1 (f := .glo "_law_pick") rfl)
  d__law_amounts := c.def_ 2 (d := d__law_amounts) rfl
  g__law_amounts := He.glo_ok X G (c.fact 2 (f := .glo "_law_amounts") rfl)
  d__law_given := c.def_ 3 (d := d__law_given) rfl
  g__law_given := He.glo_ok X G (c.fact 3 (f := .glo "_law_given") rfl)
  d__law_least := c.def_ 4 (d := d__law_least) rfl
  g__law_least := He.glo_ok X G (c.fact 4 (f := .glo "_law_least") rfl)
  d__law_lowered := c.def_ 5 (d := d__law_lowered) rfl
  g__law_lowered := He.glo_ok X G (c.fact 5 (f := .glo "_law_lowered") rfl)
  d_is_number := c.def_ 6 (d := d_is_number) rfl
  g_is_number := He.glo_ok X G (c.fact 6 (f := .glo "is_number") rfl)
  d_checked_number := c.def_ 7 (d := d_checked_number) rfl
  g_checked_number := He.glo_ok X G (c.fact 7 (f := .glo "checked_number") rfl)
  d_checked_amounts := c.def_ 8 (d := d_checked_amounts) rfl
  g_checked_amounts := He.glo_ok X G (c.fact 8 (f := .glo "checked_amounts") rfl)
  d_checked_pair := c.def_ 9 (d := d_checked_pair) rfl
  g_checked_pair := He.glo_ok X G (c.fact 9 (f := .glo "checked_pair") rfl)
  d_allotted := c.def_ 10 (d := d_allotted) rfl
  g_allotted := He.glo_ok X G (c.fact 10 (f := .glo "allotted") rfl)
  d_over := c.def_ 11 (d := d_over) rfl
  g_over := He.glo_ok X G (c.fact 11 (f := .glo "over") rfl)
  d_fits := c.def_ 12 (d := d_fits) rfl
  g_fits := He.glo_ok X G (c.fact 12 (f := .glo "fits") rfl)
  d_raised := c.def_ 13 (d := d_raised) rfl
  g_raised := He.glo_ok X G (c.fact 13 (f := .glo "raised") rfl)
  d_least_raised := c.def_ 14 (d := d_least_raised) rfl
  g_least_raised := He.glo_ok X G (c.fact 14 (f := .glo "least_raised") rfl)
  d_mixed := c.def_ 15 (d := d_mixed) rfl
  g_mixed := He.glo_ok X G (c.fact 15 (f := .glo "mixed") rfl)
  d_most_asked := c.def_ 16 (d := d_most_asked) rfl
  g_most_asked := He.glo_ok X G (c.fact 16 (f := .glo "most_asked") rfl)
  d_is_better := c.def_ 17 (d := d_is_better) rfl
  g_is_better := He.glo_ok X G (c.fact 17 (f := .glo "is_better") rfl)
  d_steps := c.def_ 18 (d := d_steps) rfl
  g_steps := He.glo_ok X G (c.fact 18 (f := .glo "steps") rfl)
  d__law_refused := c.def_ 19 (d := d__law_refused) rfl
  g__law_refused := He.glo_ok X G (c.fact 19 (f := .glo "_law_refused") rfl)
  d__law_same := c.def_ 20 (d := d__law_same) rfl
  g__law_same := He.glo_ok X G (c.fact 20 (f := .glo "_law_same") rfl)
  d__law_mixed_right := c.def_ 21 (d := d__law_mixed_right) rfl
  g__law_mixed_right := He.glo_ok X G (c.fact 21 (f := .glo "_law_mixed_right") rfl)
  d__law_over := c.def_ 22 (d := d__law_over) rfl
  g__law_over := He.glo_ok X G (c.fact 22 (f := .glo "_law_over") rfl)
  d__law_pool := c.def_ 23 (d := d__law_pool) rfl
  g__law_pool := He.glo_ok X G (c.fact 23 (f := .glo "_law_pool") rfl)
  d_kept := c.def_ 24 (d := d_kept) rfl
  g_kept := He.glo_ok X G (c.fact 24 (f := .glo "kept") rfl)
  d_law := c.def_ 25 (d := d_law) rfl
  g_law := He.glo_ok X G (c.fact 25 (f := .glo "law") rfl)
  z_ValueError := He.free_ok X G (c.fact 26 (f := .free "ValueError") rfl)
  z_abs := He.free_ok X G (c.fact 27 (f := .free "abs") rfl)
  z_all := He.free_ok X G (c.fact 28 (f := .free "all") rfl)
  z_bool := He.free_ok X G (c.fact 29 (f := .free "bool") rfl)
  z_int := He.free_ok X G (c.fact 30 (f := .free "int") rfl)
  z_isinstance := He.free_ok X G (c.fact 31 (f := .free "isinstance") rfl)
  z_len := He.free_ok X G (c.fact 32 (f := .free "len") rfl)
  z_list := He.free_ok X G (c.fact 33 (f := .free "list") rfl)
  z_min := He.free_ok X G (c.fact 34 (f := .free "min") rfl)
  z_range := He.free_ok X G (c.fact 35 (f := .free "range") rfl)
  z_sorted := He.free_ok X G (c.fact 36 (f := .free "sorted") rfl)
  z_str := He.free_ok X G (c.fact 37 (f := .free "str") rfl)
  z_sum := He.free_ok X G (c.fact 38 (f := .free "sum") rfl)
  z_tuple := He.free_ok X G (c.fact 39 (f := .free "tuple") rfl)
  i_GREATEST := He.int_ok X G (c.fact 40 (f := .int "GREATEST" (1000000)) rfl)
  i_MOST := He.int_ok X G (c.fact 41 (f := .int "MOST" (40)) rfl)
  g_NotNow := He.glo_ok X G (c.fact 42 (f := .glo "NotNow") rfl)
  x_GrainError := by
    obtain ⟨x1, x2, x3, x4⟩ := He.exc_ok (c.fact 43 (f := .exc "GrainError") rfl)
    exact ⟨x1, x2, x3, x4, He.glo_ok X G (c.fact 44 (f := .glo "GrainError") rfl)⟩
  x_InvalidNumber := by
    obtain ⟨x1, x2, x3, x4⟩ := He.exc_ok (c.fact 45 (f := .exc "InvalidNumber") rfl)
    exact ⟨x1, x2, x3, x4, He.glo_ok X G (c.fact 46 (f := .glo "InvalidNumber") rfl)⟩
  x_InvalidPaper := by
    obtain ⟨x1, x2, x3, x4⟩ := He.exc_ok (c.fact 47 (f := .exc "InvalidPaper") rfl)
    exact ⟨x1, x2, x3, x4, He.glo_ok X G (c.fact 48 (f := .glo "InvalidPaper") rfl)⟩
  x_TooMany := by
    obtain ⟨x1, x2, x3, x4⟩ := He.exc_ok (c.fact 49 (f := .exc "TooMany") rfl)
    exact ⟨x1, x2, x3, x4, He.glo_ok X G (c.fact 50 (f := .glo "TooMany") rfl)⟩
  e_InvalidNumber := ⟨of_decide_eq_true (m 0 _ rfl), of_decide_eq_true (m 1 _ rfl), of_decide_eq_true (m 2 _ rfl), m 3 _ rfl, of_decide_eq_true (m 4 _ rfl), of_decide_eq_true (m 5 _ rfl), of_decide_eq_true (m 6 _ rfl), of_decide_eq_true (m 7 _ rfl)⟩
  e_InvalidPaper := ⟨of_decide_eq_true (m 8 _ rfl), of_decide_eq_true (m 9 _ rfl), of_decide_eq_true (m 10 _ rfl), m 11 _ rfl, of_decide_eq_true (m 12 _ rfl), of_decide_eq_true (m 13 _ rfl), of_decide_eq_true (m 14 _ rfl), of_decide_eq_true (m 15 _ rfl)⟩
  e_NotNow := ⟨of_decide_eq_true (m 16 _ rfl), of_decide_eq_true (m 17 _ rfl), of_decide_eq_true (m 18 _ rfl), m 19 _ rfl, of_decide_eq_true (m 20 _ rfl), of_decide_eq_true (m 21 _ rfl), of_decide_eq_true (m 22 _ rfl), of_decide_eq_true (m 23 _ rfl)⟩
  e_TooMany := ⟨of_decide_eq_true (m 24 _ rfl), of_decide_eq_true (m 25 _ rfl), of_decide_eq_true (m 26 _ rfl), m 27 _ rfl, of_decide_eq_true (m 28 _ rfl), of_decide_eq_true (m 29 _ rfl), of_decide_eq_true (m 30 _ rfl), of_decide_eq_true (m 31 _ rfl)⟩
  m_InvalidNumber_GrainError := of_decide_eq_true (m 32 _ rfl)
  m_InvalidNumber_NotNow := of_decide_eq_true (m 33 _ rfl)
  k_InvalidNumber_InvalidNumber := of_decide_eq_true (m 34 _ rfl)
  k_InvalidNumber_InvalidPaper := of_decide_eq_true (m 35 _ rfl)
  k_InvalidNumber_ValueError := of_decide_eq_true (m 36 _ rfl)
  m_InvalidPaper_GrainError := of_decide_eq_true (m 37 _ rfl)
  m_InvalidPaper_NotNow := of_decide_eq_true (m 38 _ rfl)
  k_InvalidPaper_InvalidNumber := of_decide_eq_true (m 39 _ rfl)
  k_InvalidPaper_InvalidPaper := of_decide_eq_true (m 40 _ rfl)
  k_InvalidPaper_ValueError := of_decide_eq_true (m 41 _ rfl)
  m_NotNow_GrainError := of_decide_eq_true (m 42 _ rfl)
  m_NotNow_NotNow := of_decide_eq_true (m 43 _ rfl)
  k_NotNow_InvalidNumber := of_decide_eq_true (m 44 _ rfl)
  k_NotNow_InvalidPaper := of_decide_eq_true (m 45 _ rfl)
  k_NotNow_ValueError := of_decide_eq_true (m 46 _ rfl)
  m_TooMany_GrainError := of_decide_eq_true (m 47 _ rfl)
  m_TooMany_NotNow := of_decide_eq_true (m 48 _ rfl)
  k_TooMany_InvalidNumber := of_decide_eq_true (m 49 _ rfl)
  k_TooMany_InvalidPaper := of_decide_eq_true (m 50 _ rfl)
  k_TooMany_ValueError := of_decide_eq_true (m 51 _ rfl)
  n_NotNow := nnB_ok X G (m 52 _ rfl) (He.glo_ok X G (c.fact 42 (f := .glo "NotNow") rfl)) hP hT ini_reason (by decide)
  }
end GP

namespace GP
open PySem PySem.Spec PyProof.Rows L2 G
section
variable {P : Program} {w : World} {K : PySem.W.Frag} {mg : Str → Option Value} {base : Heap}
theorem c__law_draw (Y : Py P K mg) : Cal P w K mg base 1 "_law_draw" (spO K SDraw) [] := by
  obtain ⟨fd, F⟩ := Y.d__law_draw
  have bb := F.bindsN (ps := ["pool", "many"]) fun _ _ _ _ _ _ us hl => match us, hl with | [_, _], _ => rfl
  refine ⟨_, fd, _, [], fn_OD F sc__law_draw (fun xs ds y xs' h => by obtain ⟨_, _, _, _, rfl, _⟩ := h; rfl) (by decide) (fun cdv A outer s H E hr l xs ds y xs' h => ?_), Y.g__law_draw, F.kp, bb, .nil⟩
  obtain ⟨p, n, r, rfl, rfl, ⟨n0, n1⟩, hr', rfl, rfl⟩ := h
  -- the last part, from any pool
  have tail : ∀ (q : Pool) (s2 s3 : Sl), r = drawEnd q n → BD (cxOf (L2N.CX P w) P w K mg base n__law_draw "_law_draw" (defScope s__law_draw) (He.ga K "_law_draw") cdv A outer s H E) (WB E) ((defBody s__law_draw).drop 2) [.o (some l) (.l (pl q)), .d (.int n), s2, s3, .un] { rt := fun x ρ => x = .int r.1 ∧ ρ[0]? = some (.o (some l) (.l (pl r.2))), nx := fun ρ => PyData.int r.1 = .none ∧ ρ[0]? = some (.o (some l) (.l (pl r.2))) } := by
    intro q s2 s3 e
    subst e
    refine bd_seq (sd_setix (ix := 4) (n := 4) 0 (pd_add (pd_ixO (i := 4) 0 rfl pd_int rfl rfl) pd_int) rfl pd_int rfl rfl rfl) ?_
    refine bd_seq (sd_set 4 (pd_mod (by decide) (pd_int1 Y.z_int (pd_add (pd_add (pd_mul (.inr (by decide)) (pd_ixO (i := 3) 0 rfl pd_int rfl rfl) pd_int) (pd_mul (.inr (by decide)) (pd_ixO (i := 4) 0 rfl pd_int rfl rfl) pd_int)) pd_int)) pd_int) rfl sc__law_draw.nd) ?_
    refine bd_seq (sd_set 4 (pd_mod (by decide) (pd_int1 Y.z_int (pd_add (pd_mul ?m1 (pd_var 4 rfl) (pd_var 4 rfl)) (pd_mul (.inr (by decide)) (pd_ixO (i := 4) 0 rfl pd_int rfl rfl) pd_int))) pd_int) rfl sc__law_draw.nd) ?_
    case m1 => 
      refine .inl ⟨?_, ?_⟩
      · have := Int.emod_nonneg (q.c * 48271 + (q.d + 1) * 69621 + 7919) (show (2147483647 : Int) ≠ 0 by decide)
        omega
      · have := Int.emod_lt_of_pos (q.c * 48271 + (q.d + 1) * 69621 + 7919) (show (0 : Int) < 2147483647 by decide)
        omega
    exact bd_one (sd_ret (pd_mod n0 (pd_int1 Y.z_int (pd_var 4 rfl)) (pd_var 1 rfl)) ⟨rfl, rfl⟩)
  refine bd_env (ρ' := [.o (some l) (.l (pl p)), .d (.int n), .un, .un, .un]) rfl ?_
  refine bd_guard (td_gt (pd_ixO (i := 2) 0 rfl pd_int rfl rfl) pd_int) (fun hk => ?_) (fun hk => ?_)
  · have hk := of_decide_eq_true hk
    have e : drawP p n = (p.b % n, { p with b := p.b / n }) := by unfold drawP; rw [if_pos hk]
    rw [e] at hr'
    subst hr'
    refine bd_seq (sd_set 2 (pd_mod n0 (pd_int1 Y.z_int (pd_ixO (i := 2) 0 rfl pd_int rfl rfl)) (pd_var 1 rfl)) rfl sc__law_draw.nd) ?_
    refine bd_seq (sd_setix (ix := 2) (n := 2) 0 (pd_fdiv ⟨n0, n1⟩ (pd_ixO (i := 2) 0 rfl pd_int rfl rfl) (pd_var 1 rfl)) rfl pd_int rfl rfl rfl) ?_
    exact bd_one (sd_ret (pd_var 2 rfl) ⟨rfl, rfl⟩)
  · have hk := of_decide_eq_false hk
    have e0 : drawP p n = if decide (p.d % 8 = 0) && decide ((p.a : Int) < p.l.length) then
        let cell : Int := (gI p.l (p.a : Int)).natAbs
        if cell ≥ 10 ^ 18 then (cell % n, { p with a := p.a + 1, b := cell / n })
        else drawEnd { p with a := p.a + 1, c := cell } n
      else drawEnd p n := by unfold drawP; rw [if_neg hk]
    rw [e0] at hr'
    refine bd_cut (fun ρ => ∃ (q : Pool) (s2 s3 : Sl), ρ = [.o (some l) (.l (pl q)), .d (.int n), s2, s3, .un] ∧ r = drawEnd q n) (sd_if (k := decide (p.d % 8 = 0) && decide ((p.a : Int) < p.l.length)) (td_w (wd_and (td_eqI (pd_mod (by decide) (pd_int1 Y.z_int (pd_ixO (i := 4) 0 rfl pd_int rfl rfl)) pd_int) pd_int) fun _ => wd_and1 (td_lt (pd_ixO (i := 1) 0 rfl pd_int rfl rfl) (pd_lenD Y.z_len (pd_ixO (i := 0) 0 rfl pd_int rfl rfl))))) (fun hk2 => ?a) (fun hk2 => ?b)) (fun ρ1 h => ?_)
    case b =>
      rw [hk2] at hr'
      exact bd_nil ⟨p, .un, .un, rfl, hr'⟩
    case a =>
      rw [hk2] at hr'
      obtain ⟨h8, ha⟩ := Bool.and_eq_true_iff.mp hk2
      have ha := of_decide_eq_true ha
      have hr' : r = if (((gI p.l (p.a : Int)).natAbs : Nat) : Int) ≥ 10 ^ 18 then (((gI p.l (p.a : Int)).natAbs : Int) % n, { p with a := p.a + 1, b := ((gI p.l (p.a : Int)).natAbs : Int) / n })
        else drawEnd { p with a := p.a + 1, c := ((gI p.l (p.a : Int)).natAbs : Int) } n := hr'
      refine bd_seq (sd_set 3 (pd_abs Y.z_abs (pd_gixD (f := PyData.int) (ns := p.l) (i := (p.a : Int)) ⟨by omega, ha⟩ (pd_ixO (i := 0) 0 rfl pd_int rfl rfl) (pd_ixO (i := 1) 0 rfl pd_int rfl rfl))) rfl sc__law_draw.nd) ?_
      refine bd_seq (sd_setix (ix := 1) (n := 1) 0 (pd_add (pd_ixO (i := 1) 0 rfl pd_int rfl rfl) pd_int) rfl pd_int rfl rfl rfl) ?_
      refine bd_guard (td_ge (pd_var 3 rfl) (pd_pow ⟨by decide, by decide, by decide⟩ pd_int pd_int)) (fun hk3 => ?_) (fun hk3 => ?_)
      · have hk3 := of_decide_eq_true hk3
        have hk3 : ((gI p.l (p.a : Int)).natAbs : Int) ≥ 10 ^ 18 := hk3
        rw [if_pos hk3] at hr'
        subst hr'
        refine bd_seq (sd_setix (ix := 2) (n := 2) 0 (pd_fdiv ⟨n0, n1⟩ (pd_var 3 rfl) (pd_var 1 rfl)) rfl pd_int rfl rfl rfl) ?_
        exact bd_one (sd_ret (pd_mod n0 (pd_int1 Y.z_int (pd_var 3 rfl)) (pd_var 1 rfl)) ⟨rfl, rfl⟩)
      · have hk3 := of_decide_eq_false hk3
        have hk3 : ¬ ((gI p.l (p.a : Int)).natAbs : Int) ≥ 10 ^ 18 := hk3
        rw [if_neg hk3] at hr'
        refine bd_one (sd_setix (ix := 3) (n := 3) 0 (pd_var 3 rfl) rfl pd_int rfl rfl ?_)
        exact ⟨_, .un, _, rfl, hr'⟩
    obtain ⟨q, s2, s3, rfl, e⟩ := h
    exact tail q s2 s3 e

def SPool (ds : List PyData) (r : Res) : Prop := ∃ ns : List Int, ds = [.list (ns.map .int)] ∧ r = .own (.l (pl ⟨ns, 0, 0, 0, 0⟩))
theorem c__law_pool (Y : Py P K mg) : Cal P w K mg base 1 "_law_pool" (spD K SPool) [] := by
  obtain ⟨fd, F⟩ := Y.d__law_pool
  have bb := F.bindsN (ps := ["script"]) fun _ _ _ _ _ _ us hl => match us, hl with | [_], _ => rfl
  refine ⟨_, fd, _, [], fn_DD F sc__law_pool (fun ds r h => by obtain ⟨_, rfl, _⟩ := h; rfl) (by decide) (fun cdv A outer s H E hr ds r h => ?_), Y.g__law_pool, F.kp, bb, .nil⟩
  obtain ⟨ns, rfl, rfl⟩ := h
  exact bd_one (sd_retO (pn_lst (ad_cons (pd_n (pd_listD (f := PyData.int) (ns := ns) Y.z_list (pd_var 0 rfl))) (ad_cons pd_int (ad_cons pd_int (ad_cons pd_int (ad_cons pd_int ad_nil)))))) rfl)

theorem c__law_pick (Y : Py P K mg) : Cal P w K mg base 2 "_law_pick" (spO K SPick) [] := by
  obtain ⟨fd, F⟩ := Y.d__law_pick
  have bb := F.bindsN (ps := ["pool", "rows"]) fun _ _ _ _ _ _ us hl => match us, hl with | [_, _], _ => rfl
  refine ⟨_, fd, _, [], fn_OD F sc__law_pick (fun xs ds y xs' h => by obtain ⟨_, _, _, _, rfl, _⟩ := h; rfl) (by decide) (fun cdv A outer s H E hr l xs ds y xs' h => ?_), Y.g__law_pick, F.kp, bb, .nil⟩
  obtain ⟨p, rows, r, rfl, rfl, ⟨n0, n1⟩, hr', hy, rfl⟩ := h
  have bd := draw_bd p (n := (rows.length : Int)) (by omega)
  rw [← hr'] at bd
  refine bd_one (sd_ret (x := y) (pd_ixL (i := r.1) (xs := rows) ?e srcN (pq_d (pd_var 1 rfl)) (pd_callO 0 (c__law_draw Y) hr .nil rfl (ad_cons (pd_len (xs := rows) Y.z_len (pq_d (pd_var 1 rfl)) srcN) ad_nil) rfl ⟨p, (rows.length : Int), r, rfl, rfl, ⟨by omega, by omega⟩, hr', rfl, rfl⟩)) ⟨rfl, rfl⟩)
  unfold atI ixN
  rw [if_pos bd.1, if_pos bd.2]
  exact hy

theorem c__law_same (Y : Py P K mg) : ∀ d : Nat, Cal P w K mg base (d + 1) "_law_same" (spD K (SSame d)) [] := by
  obtain ⟨fd, F⟩ := Y.d__law_same
  have bb := F.bindsN (ps := ["actual", "due"]) fun _ _ _ _ _ _ us hl => match us, hl with | [_, _], _ => rfl
  suffices h : ∀ d : Nat, FnOk P w K mg base (L2N.CX P w) (d + 1) (He.ga K "_law_same") fd [("actual" : Str), ("due" : Str)] (spD K (SSame d)) by
    exact fun d => ⟨_, fd, _, [], h d, Y.g__law_same, F.kp, bb, .nil⟩
  intro d
  induction d with
  | zero =>
    refine fn_DD F sc__law_same (fun ds r h => by obtain ⟨_, rfl, _⟩ := h; rfl) (by decide) (fun cdv A outer s H E hr ds r h => ?_)
    obtain ⟨x, rfl, nx, rfl⟩ := h
    refine bd_env (ρ' := [.d x, .d x, .un]) rfl ?_
    cases nx with
    | non =>
      refine bd_guard (k := true) (td_isN (x := .none) (pd_var 1 rfl)) (fun _ => ?_) (fun h => nomatch h)
      exact bd_one (sd_ret (pd_isN (x := .none) (pd_var 0 rfl)) rfl)
    | bl b =>
      refine bd_guard (k := false) (td_isN (x := .bool b) (pd_var 1 rfl)) (fun h => nomatch h) (fun _ => ?_)
      refine bd_guard (k := false || false) (td_val (pd_isi2 (x := .bool b) (T := "tuple") (U := "list") rfl (show kitB "bool" "tuple" = some false by decide +kernel) (show kitB "bool" "list" = some false by decide +kernel) Y.z_isinstance (pe_cls Y.z_tuple rfl) (pe_cls Y.z_list rfl) (pd_var 1 rfl))) (fun h => nomatch h) (fun _ => ?_)
      refine bd_guard (k := true) (td_val (pd_isi (x := .bool b) (T := "bool") rfl (show kitB "bool" "bool" = some true by decide +kernel) Y.z_isinstance (pe_cls Y.z_bool rfl) (pd_var 1 rfl))) (fun _ => ?_) (fun h => nomatch h)
      exact bd_one (sd_ret (pd_and_t (pd_isi (x := .bool b) (T := "bool") rfl (show kitB "bool" "bool" = some true by decide +kernel) Y.z_isinstance (pe_cls Y.z_bool rfl) (pd_var 0 rfl)) (pd_one (pd_eq hr.units rfl rfl (pd_var 0 rfl) (pd_var 1 rfl)))) (by show PyData.bool (PyData.eqv (.bool b) (.bool b)) = .bool true; simp [PyData.eqv]))
    | int i =>
      refine bd_guard (k := false) (td_isN (x := .int i) (pd_var 1 rfl)) (fun h => nomatch h) (fun _ => ?_)
      refine bd_guard (k := false || false) (td_val (pd_isi2 (x := .int i) (T := "tuple") (U := "list") rfl (show kitB "int" "tuple" = some false by decide +kernel) (show kitB "int" "list" = some false by decide +kernel) Y.z_isinstance (pe_cls Y.z_tuple rfl) (pe_cls Y.z_list rfl) (pd_var 1 rfl))) (fun h => nomatch h) (fun _ => ?_)
      refine bd_guard (k := false) (td_val (pd_isi (x := .int i) (T := "bool") rfl (show kitB "int" "bool" = some false by decide +kernel) Y.z_isinstance (pe_cls Y.z_bool rfl) (pd_var 1 rfl))) (fun h => nomatch h) (fun _ => ?_)
      refine bd_guard (k := true) (td_val (pd_isi (x := .int i) (T := "int") rfl (show kitB "int" "int" = some true by decide +kernel) Y.z_isinstance (pe_cls Y.z_int rfl) (pd_var 1 rfl))) (fun _ => ?_) (fun h => nomatch h)
      exact bd_one (sd_ret (pd_and_t (pd_isi (x := .int i) (T := "int") rfl (show kitB "int" "int" = some true by decide +kernel) Y.z_isinstance (pe_cls Y.z_int rfl) (pd_var 0 rfl)) (pd_and_t (pd_not (k := false) (pd_isi (x := .int i) (T := "bool") rfl (show kitB "int" "bool" = some false by decide +kernel) Y.z_isinstance (pe_cls Y.z_bool rfl) (pd_var 0 rfl))) (pd_one (pd_eqI (pd_var 0 rfl) (pd_var 1 rfl))))) (by show PyData.bool (decide (i = i)) = .bool true; simp))
    | str t =>
      refine bd_guard (k := false) (td_isN (x := .str t) (pd_var 1 rfl)) (fun h => nomatch h) (fun _ => ?_)
      refine bd_guard (k := false || false) (td_val (pd_isi2 (x := .str t) (T := "tuple") (U := "list") rfl (show kitB "str" "tuple" = some false by decide +kernel) (show kitB "str" "list" = some false by decide +kernel) Y.z_isinstance (pe_cls Y.z_tuple rfl) (pe_cls Y.z_list rfl) (pd_var 1 rfl))) (fun h => nomatch h) (fun _ => ?_)
      refine bd_guard (k := false) (td_val (pd_isi (x := .str t) (T := "bool") rfl (show kitB "str" "bool" = some false by decide +kernel) Y.z_isinstance (pe_cls Y.z_bool rfl) (pd_var 1 rfl))) (fun h => nomatch h) (fun _ => ?_)
      refine bd_guard (k := false) (td_val (pd_isi (x := .str t) (T := "int") rfl (show kitB "str" "int" = some false by decide +kernel) Y.z_isinstance (pe_cls Y.z_int rfl) (pd_var 1 rfl))) (fun h => nomatch h) (fun _ => ?_)
      exact bd_one (sd_ret (pd_and_t (pd_isi (x := .str t) (T := "str") rfl (show kitB "str" "str" = some true by decide +kernel) Y.z_isinstance (pe_cls Y.z_str rfl) (pd_var 0 rfl)) (pd_one (pd_eqS (pd_var 0 rfl) (pd_var 1 rfl)))) (by show PyData.bool (decide (t = t)) = .bool true; simp))
  | succ d ih =>
    refine fn_DD F sc__law_same (fun ds r h => by obtain ⟨_, rfl, _⟩ := h; rfl) (by decide) (fun cdv A outer s H E hr ds r h => ?_)
    obtain ⟨x, rfl, nx, rfl⟩ := h
    have C : Cal P w K mg base (d + 1) "_law_same" (spD K (SSame d)) [] := ⟨_, fd, _, [], ih, Y.g__law_same, F.kp, bb, .nil⟩
    refine bd_env (ρ' := [.d x, .d x, .un]) rfl ?_
    cases nx with
    | non =>
      refine bd_guard (k := true) (td_isN (x := .none) (pd_var 1 rfl)) (fun _ => ?_) (fun h => nomatch h)
      exact bd_one (sd_ret (pd_isN (x := .none) (pd_var 0 rfl)) rfl)
    | bl b =>
      refine bd_guard (k := false) (td_isN (x := .bool b) (pd_var 1 rfl)) (fun h => nomatch h) (fun _ => ?_)
      refine bd_guard (k := false || false) (td_val (pd_isi2 (x := .bool b) (T := "tuple") (U := "list") rfl (show kitB "bool" "tuple" = some false by decide +kernel) (show kitB "bool" "list" = some false by decide +kernel) Y.z_isinstance (pe_cls Y.z_tuple rfl) (pe_cls Y.z_list rfl) (pd_var 1 rfl))) (fun h => nomatch h) (fun _ => ?_)
      refine bd_guard (k := true) (td_val (pd_isi (x := .bool b) (T := "bool") rfl (show kitB "bool" "bool" = some true by decide +kernel) Y.z_isinstance (pe_cls Y.z_bool rfl) (pd_var 1 rfl))) (fun _ => ?_) (fun h => nomatch h)
      exact bd_one (sd_ret (pd_and_t (pd_isi (x := .bool b) (T := "bool") rfl (show kitB "bool" "bool" = some true by decide +kernel) Y.z_isinstance (pe_cls Y.z_bool rfl) (pd_var 0 rfl)) (pd_one (pd_eq hr.units rfl rfl (pd_var 0 rfl) (pd_var 1 rfl)))) (by show PyData.bool (PyData.eqv (.bool b) (.bool b)) = .bool true; simp [PyData.eqv]))
    | int i =>
      refine bd_guard (k := false) (td_isN (x := .int i) (pd_var 1 rfl)) (fun h => nomatch h) (fun _ => ?_)
      refine bd_guard (k := false || false) (td_val (pd_isi2 (x := .int i) (T := "tuple") (U := "list") rfl (show kitB "int" "tuple" = some false by decide +kernel) (show kitB "int" "list" = some false by decide +kernel) Y.z_isinstance (pe_cls Y.z_tuple rfl) (pe_cls Y.z_list rfl) (pd_var 1 rfl))) (fun h => nomatch h) (fun _ => ?_)
      refine bd_guard (k := false) (td_val (pd_isi (x := .int i) (T := "bool") rfl (show kitB "int" "bool" = some false by decide +kernel) Y.z_isinstance (pe_cls Y.z_bool rfl) (pd_var 1 rfl))) (fun h => nomatch h) (fun _ => ?_)
      refine bd_guard (k := true) (td_val (pd_isi (x := .int i) (T := "int") rfl (show kitB "int" "int" = some true by decide +kernel) Y.z_isinstance (pe_cls Y.z_int rfl) (pd_var 1 rfl))) (fun _ => ?_) (fun h => nomatch h)
      exact bd_one (sd_ret (pd_and_t (pd_isi (x := .int i) (T := "int") rfl (show kitB "int" "int" = some true by decide +kernel) Y.z_isinstance (pe_cls Y.z_int rfl) (pd_var 0 rfl)) (pd_and_t (pd_not (k := false) (pd_isi (x := .int i) (T := "bool") rfl (show kitB "int" "bool" = some false by decide +kernel) Y.z_isinstance (pe_cls Y.z_bool rfl) (pd_var 0 rfl))) (pd_one (pd_eqI (pd_var 0 rfl) (pd_var 1 rfl))))) (by show PyData.bool (decide (i = i)) = .bool true; simp))
    | str t =>
      refine bd_guard (k := false) (td_isN (x := .str t) (pd_var 1 rfl)) (fun h => nomatch h) (fun _ => ?_)
      refine bd_guard (k := false || false) (td_val (pd_isi2 (x := .str t) (T := "tuple") (U := "list") rfl (show kitB "str" "tuple" = some false by decide +kernel) (show kitB "str" "list" = some false by decide +kernel) Y.z_isinstance (pe_cls Y.z_tuple rfl) (pe_cls Y.z_list rfl) (pd_var 1 rfl))) (fun h => nomatch h) (fun _ => ?_)
      refine bd_guard (k := false) (td_val (pd_isi (x := .str t) (T := "bool") rfl (show kitB "str" "bool" = some false by decide +kernel) Y.z_isinstance (pe_cls Y.z_bool rfl) (pd_var 1 rfl))) (fun h => nomatch h) (fun _ => ?_)
      refine bd_guard (k := false) (td_val (pd_isi (x := .str t) (T := "int") rfl (show kitB "str" "int" = some false by decide +kernel) Y.z_isinstance (pe_cls Y.z_int rfl) (pd_var 1 rfl))) (fun h => nomatch h) (fun _ => ?_)
      exact bd_one (sd_ret (pd_and_t (pd_isi (x := .str t) (T := "str") rfl (show kitB "str" "str" = some true by decide +kernel) Y.z_isinstance (pe_cls Y.z_str rfl) (pd_var 0 rfl)) (pd_one (pd_eqS (pd_var 0 rfl) (pd_var 1 rfl)))) (by show PyData.bool (decide (t = t)) = .bool true; simp))
    | @lst _ xs hl hx =>
      refine bd_guard (k := false) (td_isN (x := .list xs) (pd_var 1 rfl)) (fun h => nomatch h) (fun _ => ?_)
      refine bd_guard_end (sd_if (k := false || true) (td_val (pd_isi2 (x := .list xs) (T := "tuple") (U := "list") rfl (show kitB "list" "tuple" = some false by decide +kernel) (show kitB "list" "list" = some true by decide +kernel) Y.z_isinstance (pe_cls Y.z_tuple rfl) (pe_cls Y.z_list rfl) (pd_var 1 rfl))) (fun _ => ?_) (fun h => nomatch h))
      refine bd_guard (k := false || false) (td_w (wd_or (td_ne hr.units rfl rfl (pd_isi (x := .list xs) (k := false) (T := "tuple") rfl (show kitB "list" "tuple" = some false by decide +kernel) Y.z_isinstance (pe_cls Y.z_tuple rfl) (pd_var 1 rfl)) (pd_isi (x := .list xs) (k := false) (T := "tuple") rfl (show kitB "list" "tuple" = some false by decide +kernel) Y.z_isinstance (pe_cls Y.z_tuple rfl) (pd_var 0 rfl))) fun _ => wd_or1 (td_ne hr.units rfl rfl (pd_isi (x := .list xs) (k := true) (T := "list") rfl (show kitB "list" "list" = some true by decide +kernel) Y.z_isinstance (pe_cls Y.z_list rfl) (pd_var 1 rfl)) (pd_isi (x := .list xs) (k := true) (T := "list") rfl (show kitB "list" "list" = some true by decide +kernel) Y.z_isinstance (pe_cls Y.z_list rfl) (pd_var 0 rfl))))) (fun h => nomatch h) (fun _ => ?_)
      refine bd_guard (k := !decide ((xs.length : Int) = (xs.length : Int))) (td_neI (pd_len (xs := xs) Y.z_len (pq_d (pd_var 0 rfl)) srcN) (pd_len (xs := xs) Y.z_len (pq_d (pd_var 1 rfl)) srcN)) (fun h => absurd h (by simp)) (fun _ => ?_)
      refine bd_cut (fun r => True) (sd_forF (List.range xs.length) (fun i : Nat => PyData.int (i : Int)) (fun _ : Unit => [.d (.list xs), .d (.list xs), .un]) (fun _ _ => ()) () (fun _ _ => True) (passes_of rfl) rfl (id_range0 (n := xs.length) Y.z_range (pd_len (xs := xs) Y.z_len (pq_d (pd_var 1 rfl)) srcN) (by omega)) (Le.refl _) trivial (fun _ => trivial) (fun i s a ha hs pv => ⟨_, gd_name 2 sc__law_same.nd, ?_⟩) (fun _ _ _ => trivial)) (fun r _ => bd_one (sd_ret pd_bl rfl))
      have hlt : a < xs.length := by
        have := List.mem_of_getElem? ha
        simpa using this
      refine bd_one (sd_if (k := !true) (td_not (td_val (pd_call C hr .nil (ad_cons (pd_ixL (i := (a : Int)) (xs := xs) (x := xs[a]) (atI_nat (List.getElem?_eq_getElem hlt)) srcN (pq_d (pd_var 0 rfl)) (pd_var 2 rfl)) (ad_cons (pd_ixL (i := (a : Int)) (xs := xs) (x := xs[a]) (atI_nat (List.getElem?_eq_getElem hlt)) srcN (pq_d (pd_var 1 rfl)) (pd_var 2 rfl)) ad_nil)) ⟨xs[a], rfl, hx _ (List.getElem_mem hlt), rfl⟩ (Nat.le_refl _)))) (fun h => nomatch h) (fun _ => bd_nil ⟨by repeat (first | exact Le.nil | apply Le.eq | apply Le.un), trivial⟩))
    | @tup _ xs hl hx =>
      refine bd_guard (k := false) (td_isN (x := .tuple xs) (pd_var 1 rfl)) (fun h => nomatch h) (fun _ => ?_)
      refine bd_guard_end (sd_if (k := true || false) (td_val (pd_isi2 (x := .tuple xs) (T := "tuple") (U := "list") rfl (show kitB "tuple" "tuple" = some true by decide +kernel) (show kitB "tuple" "list" = some false by decide +kernel) Y.z_isinstance (pe_cls Y.z_tuple rfl) (pe_cls Y.z_list rfl) (pd_var 1 rfl))) (fun _ => ?_) (fun h => nomatch h))
      refine bd_guard (k := false || false) (td_w (wd_or (td_ne hr.units rfl rfl (pd_isi (x := .tuple xs) (k := true) (T := "tuple") rfl (show kitB "tuple" "tuple" = some true by decide +kernel) Y.z_isinstance (pe_cls Y.z_tuple rfl) (pd_var 1 rfl)) (pd_isi (x := .tuple xs) (k := true) (T := "tuple") rfl (show kitB "tuple" "tuple" = some true by decide +kernel) Y.z_isinstance (pe_cls Y.z_tuple rfl) (pd_var 0 rfl))) fun _ => wd_or1 (td_ne hr.units rfl rfl (pd_isi (x := .tuple xs) (k := false) (T := "list") rfl (show kitB "tuple" "list" = some false by decide +kernel) Y.z_isinstance (pe_cls Y.z_list rfl) (pd_var 1 rfl)) (pd_isi (x := .tuple xs) (k := false) (T := "list") rfl (show kitB "tuple" "list" = some false by decide +kernel) Y.z_isinstance (pe_cls Y.z_list rfl) (pd_var 0 rfl))))) (fun h => nomatch h) (fun _ => ?_)
      refine bd_guard (k := !decide ((xs.length : Int) = (xs.length : Int))) (td_neI (pd_lenT (xs := xs) Y.z_len (pd_var 0 rfl)) (pd_lenT (xs := xs) Y.z_len (pd_var 1 rfl))) (fun h => absurd h (by simp)) (fun _ => ?_)
      refine bd_cut (fun r => True) (sd_forF (List.range xs.length) (fun i : Nat => PyData.int (i : Int)) (fun _ : Unit => [.d (.tuple xs), .d (.tuple xs), .un]) (fun _ _ => ()) () (fun _ _ => True) (passes_of rfl) rfl (id_range0 (n := xs.length) Y.z_range (pd_lenT (xs := xs) Y.z_len (pd_var 1 rfl)) (by omega)) (Le.refl _) trivial (fun _ => trivial) (fun i s a ha hs pv => ⟨_, gd_name 2 sc__law_same.nd, ?_⟩) (fun _ _ _ => trivial)) (fun r _ => bd_one (sd_ret pd_bl rfl))
      have hlt : a < xs.length := by
        have := List.mem_of_getElem? ha
        simpa using this
      refine bd_one (sd_if (k := !true) (td_not (td_val (pd_call C hr .nil (ad_cons (pd_ixT (i := (a : Int)) (xs := xs) (x := xs[a]) (atI_nat (List.getElem?_eq_getElem hlt)) (pd_var 0 rfl) (pd_var 2 rfl)) (ad_cons (pd_ixT (i := (a : Int)) (xs := xs) (x := xs[a]) (atI_nat (List.getElem?_eq_getElem hlt)) (pd_var 1 rfl) (pd_var 2 rfl)) ad_nil)) ⟨xs[a], rfl, hx _ (List.getElem_mem hlt), rfl⟩ (Nat.le_refl _)))) (fun h => nomatch h) (fun _ => bd_nil ⟨by repeat (first | exact Le.nil | apply Le.eq | apply Le.un), trivial⟩))
end
end GP

namespace GP
open PySem PySem.Spec PyProof.Rows L2 G
section
variable {P : Program} {w : World} {K : PySem.W.Frag} {mg : Str → Option Value} {base : Heap}

def S_is_number (ds : List PyData) (r : Res) : Prop := ∃ (d : PyData) (l m : Int), ds = [d, .int l, .int m] ∧ isDct d = false ∧ r = .ret (.bool (isNum d l m))
theorem f_is_number (Y : Py P K mg) {fd : FuncData} (F : FunD K "is_number" "is_number" (defArgs s_is_number) (defBody s_is_number) (defScope s_is_number) [.int 0, .int 1000000] [] (He.ga K "is_number") fd) : FnOk P w K mg base (L2N.CX P w) 1 (He.ga K "is_number") fd [("value" : Str), ("least" : Str), ("most" : Str)] (spD K S_is_number) := by
  refine fn_DD F sc_is_number (fun ds r h => by obtain ⟨_, _, _, rfl, _⟩ := h; rfl) (by decide) (fun cdv A outer s H E hr ds r h => ?_)
  obtain ⟨d, l, m, rfl, nd, rfl⟩ := h
  refine bd_env (ρ' := [.d d, .d (PyData.int l), .d (PyData.int m)]) rfl ?_
  cases d with
  | dict _ => cases nd
  | bool b => exact bd_guard (k := true) (td_w (wd_or_t (td_val (pd_isi (x := .bool b) (T := "bool") (k := true) rfl (show kitB "bool" "bool" = some true by decide +kernel) Y.z_isinstance (pe_cls Y.z_bool rfl) (pd_var 0 rfl))))) (fun _ => bd_one (sd_ret pd_bl rfl)) (fun h => nomatch h)
  | none => exact bd_guard (k := false || !false) (td_w (wd_or (td_val (pd_isi (x := .none) (T := "bool") (k := false) rfl (show kitB "NoneType" "bool" = some false by decide +kernel) Y.z_isinstance (pe_cls Y.z_bool rfl) (pd_var 0 rfl))) (fun _ => wd_or1 (td_not (td_val (pd_isi (x := .none) (T := "int") (k := false) rfl (show kitB "NoneType" "int" = some false by decide +kernel) Y.z_isinstance (pe_cls Y.z_int rfl) (pd_var 0 rfl))))))) (fun _ => bd_one (sd_ret pd_bl rfl)) (fun h => nomatch h)
  | str t => exact bd_guard (k := false || !false) (td_w (wd_or (td_val (pd_isi (x := .str t) (T := "bool") (k := false) rfl (show kitB "str" "bool" = some false by decide +kernel) Y.z_isinstance (pe_cls Y.z_bool rfl) (pd_var 0 rfl))) (fun _ => wd_or1 (td_not (td_val (pd_isi (x := .str t) (T := "int") (k := false) rfl (show kitB "str" "int" = some false by decide +kernel) Y.z_isinstance (pe_cls Y.z_int rfl) (pd_var 0 rfl))))))) (fun _ => bd_one (sd_ret pd_bl rfl)) (fun h => nomatch h)
  | list t => exact bd_guard (k := false || !false) (td_w (wd_or (td_val (pd_isi (x := .list t) (T := "bool") (k := false) rfl (show kitB "list" "bool" = some false by decide +kernel) Y.z_isinstance (pe_cls Y.z_bool rfl) (pd_var 0 rfl))) (fun _ => wd_or1 (td_not (td_val (pd_isi (x := .list t) (T := "int") (k := false) rfl (show kitB "list" "int" = some false by decide +kernel) Y.z_isinstance (pe_cls Y.z_int rfl) (pd_var 0 rfl))))))) (fun _ => bd_one (sd_ret pd_bl rfl)) (fun h => nomatch h)
  | tuple t => exact bd_guard (k := false || !false) (td_w (wd_or (td_val (pd_isi (x := .tuple t) (T := "bool") (k := false) rfl (show kitB "tuple" "bool" = some false by decide +kernel) Y.z_isinstance (pe_cls Y.z_bool rfl) (pd_var 0 rfl))) (fun _ => wd_or1 (td_not (td_val (pd_isi (x := .tuple t) (T := "int") (k := false) rfl (show kitB "tuple" "int" = some false by decide +kernel) Y.z_isinstance (pe_cls Y.z_int rfl) (pd_var 0 rfl))))))) (fun _ => bd_one (sd_ret pd_bl rfl)) (fun h => nomatch h)
  | int i =>
    refine bd_guard (k := false || !true) (td_w (wd_or (td_val (pd_isi (x := .int i) (T := "bool") (k := false) rfl (show kitB "int" "bool" = some false by decide +kernel) Y.z_isinstance (pe_cls Y.z_bool rfl) (pd_var 0 rfl))) (fun _ => wd_or1 (td_not (td_val (pd_isi (x := .int i) (T := "int") (k := true) rfl (show kitB "int" "int" = some true by decide +kernel) Y.z_isinstance (pe_cls Y.z_int rfl) (pd_var 0 rfl))))))) (fun h => nomatch h) (fun _ => ?_)
    exact bd_one (sd_ret (x := .bool (decide (l ≤ i) && decide (i ≤ m))) (pd_chain (f := fun i j => decide (i ≤ j)) (g := fun i j => decide (i ≤ j)) (i := l) (j := i) (l := m) rfl rfl (pd_var 1 rfl) (pd_var 0 rfl) (fun _ => (pd_var 2 rfl))) rfl)
theorem c_is_number_3 (Y : Py P K mg) : Cal P w K mg base 1 "is_number" (spD K S_is_number) [] := by
  obtain ⟨fd, F⟩ := Y.d_is_number
  obtain ⟨ds, v, b⟩ := F.binds1 (ps := [("value" : Str), ("least" : Str), ("most" : Str)]) 3 2 (by simp) rfl fun _ _ _ _ _ _ _ us its h1 h2 => match us, its, h1, h2 with | [_, _, _], [_, _], _, _ => ⟨_, rfl, rfl⟩
  exact ⟨_, fd, _, ds, f_is_number Y F, Y.g_is_number, F.kp, b, v⟩
theorem c_is_number_2 (Y : Py P K mg) : Cal P w K mg base 1 "is_number" (spD K S_is_number) [.int 1000000] := by
  obtain ⟨fd, F⟩ := Y.d_is_number
  obtain ⟨ds, v, b⟩ := F.binds1 (ps := [("value" : Str), ("least" : Str), ("most" : Str)]) 2 1 (by simp) rfl fun _ _ _ _ _ _ _ us its h1 h2 => match us, its, h1, h2 with | [_, _], [_, _], _, _ => ⟨_, rfl, rfl⟩
  exact ⟨_, fd, _, ds, f_is_number Y F, Y.g_is_number, F.kp, b, v⟩
theorem c_is_number_1 (Y : Py P K mg) : Cal P w K mg base 1 "is_number" (spD K S_is_number) [.int 0, .int 1000000] := by
  obtain ⟨fd, F⟩ := Y.d_is_number
  obtain ⟨ds, v, b⟩ := F.binds1 (ps := [("value" : Str), ("least" : Str), ("most" : Str)]) 1 0 (by simp) rfl fun _ _ _ _ _ _ _ us its h1 h2 => match us, its, h1, h2 with | [_], [_, _], _, _ => ⟨_, rfl, rfl⟩
  exact ⟨_, fd, _, ds, f_is_number Y F, Y.g_is_number, F.kp, b, v⟩

def chkRes (K : PySem.W.Frag) (d : PyData) (l m : Int) : Res := if isNum d l m = true then .ret d else .exc (.ref (He.ga K "InvalidNumber")) []
def S_checked_number (K : PySem.W.Frag) (ds : List PyData) (r : Res) : Prop := ∃ (d : PyData) (l m : Int), ds = [d, .int l, .int m] ∧ (isDct d = false ∧ Sml l ∧ Sml m) ∧ r = chkRes K d l m
theorem f_checked_number (Y : Py P K mg) {fd : FuncData} (F : FunD K "checked_number" "checked_number" (defArgs s_checked_number) (defBody s_checked_number) (defScope s_checked_number) [.int 0, .int 1000000] [] (He.ga K "checked_number") fd) : FnOk P w K mg base (L2N.CX P w) 2 (He.ga K "checked_number") fd [("value" : Str), ("least" : Str), ("most" : Str)] (spD K (S_checked_number K)) := by
  refine fn_DD F sc_checked_number (fun ds r h => by obtain ⟨_, _, _, rfl, _⟩ := h; rfl) (by decide) (fun cdv A outer s H E hr ds r h => ?_)
  obtain ⟨d, l, m, rfl, ⟨nd, sl, sm⟩, rfl⟩ := h
  refine bd_env (ρ' := [.d d, .d (PyData.int l), .d (PyData.int m)]) rfl ?_
  unfold chkRes
  refine bd_guard (k := !isNum d l m) (td_not (td_val (pd_call (c_is_number_3 Y) hr .nil (ad_cons (pd_var 0 rfl) (ad_cons (pd_var 1 rfl) (ad_cons (pd_var 2 rfl) ad_nil))) ⟨d, l, m, rfl, nd, rfl⟩))) (fun hk => ?_) (fun hk => ?_)
  · rw [if_neg (by simpa using hk)]
    refine bd_one (sd_raise1 rfl (L2N.takes_of rfl rfl rfl rfl) Y.x_InvalidNumber (pd_addS ?a1 (pd_addS ?a2 (pd_addS ?a3 pd_str (pd_strI sl.2 Y.z_str (pd_var 1 rfl))) pd_str) (pd_strI sm.2 Y.z_str (pd_var 2 rfl))) ⟨rfl, rfl⟩)
    all_goals (have h1 := sl.1; have h2 := sm.1; have hz : (100000 : Nat) ≤ sizeLine := by decide)
    case a3 =>
      have h3 : ("no number from " : Str).length = 15 := by decide
      omega
    case a2 =>
      rw [strlen_add]
      have h3 : ("no number from " : Str).length = 15 := by decide
      have h4 : (" to " : Str).length = 4 := by decide
      omega
    case a1 =>
      rw [strlen_add, strlen_add]
      have h3 : ("no number from " : Str).length = 15 := by decide
      have h4 : (" to " : Str).length = 4 := by decide
      omega
  · rw [if_pos (by simpa using hk)]
    exact bd_one (sd_ret (pd_var 0 rfl) rfl)
theorem chk_ok {x l m : Int} (h : l ≤ x ∧ x ≤ m) : Res.ret (.int x) = chkRes K (.int x) l m := by
  unfold chkRes
  rw [if_pos]
  simp [isNum, h.1, h.2]
theorem chk_bad {d : PyData} {l m : Int} (h : isNum d l m = false) : Res.exc (.ref (He.ga K "InvalidNumber")) [] = chkRes K d l m := by
  unfold chkRes
  rw [if_neg]
  rw [h]; exact Bool.false_ne_true
theorem chk_yes {d : PyData} {l m : Int} (h : isNum d l m = true) : Res.ret d = chkRes K d l m := by
  unfold chkRes
  rw [if_pos h]
theorem c_checked_number_3 (Y : Py P K mg) : Cal P w K mg base 2 "checked_number" (spD K (S_checked_number K)) [] := by
  obtain ⟨fd, F⟩ := Y.d_checked_number
  obtain ⟨ds, v, b⟩ := F.binds1 (ps := [("value" : Str), ("least" : Str), ("most" : Str)]) 3 2 (by simp) rfl fun _ _ _ _ _ _ _ us its h1 h2 => match us, its, h1, h2 with | [_, _, _], [_, _], _, _ => ⟨_, rfl, rfl⟩
  exact ⟨_, fd, _, ds, f_checked_number Y F, Y.g_checked_number, F.kp, b, v⟩
theorem c_checked_number_2 (Y : Py P K mg) : Cal P w K mg base 2 "checked_number" (spD K (S_checked_number K)) [.int 1000000] := by
  obtain ⟨fd, F⟩ := Y.d_checked_number
  obtain ⟨ds, v, b⟩ := F.binds1 (ps := [("value" : Str), ("least" : Str), ("most" : Str)]) 2 1 (by simp) rfl fun _ _ _ _ _ _ _ us its h1 h2 => match us, its, h1, h2 with | [_, _], [_, _], _, _ => ⟨_, rfl, rfl⟩
  exact ⟨_, fd, _, ds, f_checked_number Y F, Y.g_checked_number, F.kp, b, v⟩
theorem c_checked_number_1 (Y : Py P K mg) : Cal P w K mg base 2 "checked_number" (spD K (S_checked_number K)) [.int 0, .int 1000000] := by
  obtain ⟨fd, F⟩ := Y.d_checked_number
  obtain ⟨ds, v, b⟩ := F.binds1 (ps := [("value" : Str), ("least" : Str), ("most" : Str)]) 1 0 (by simp) rfl fun _ _ _ _ _ _ _ us its h1 h2 => match us, its, h1, h2 with | [_], [_, _], _, _ => ⟨_, rfl, rfl⟩
  exact ⟨_, fd, _, ds, f_checked_number Y F, Y.g_checked_number, F.kp, b, v⟩
end
end GP

namespace GP
open PySem PySem.Spec PyProof.Rows L2 G
/-! ### the loads that are given, sort by sort -/
structure Am (xs : List Int) : Prop where
  len : xs.length ≤ 40
  bd : ∀ x ∈ xs, 0 ≤ x ∧ x ≤ 1000000
def pL : Int → List Int → List Int
  | _, [] => []
  | n, l :: ls => (l - min n l) :: pL (n - min n l) ls
def pE : Int → List Int → Int → List (Int × Int)
  | _, [], _ => []
  | n, l :: ls, s => (if 0 < min n l then [(s, min n l)] else []) ++ pE (n - min n l) ls (s + 1)
def uL : List Int → List Int
  | [] => []
  | l :: ls => if 0 < l then (l - 1) :: ls else l :: uL ls
def uF : List Int → Int → Option Int
  | [], _ => none
  | l :: ls, s => if 0 < l then some s else uF ls (s + 1)
def bE {κ : Type} [DecidableEq κ] (E : List (κ × Int)) (g : κ) : List (κ × Int) := pv E g ((gv E g).getD 0 + 1)
theorem pL_len : ∀ (ls : List Int) (n : Int), (pL n ls).length = ls.length
  | [], _ => rfl
  | l :: ls, n => congrArg (· + 1) (pL_len ls _)
theorem pL_nn : ∀ (ls : List Int) (n : Int), 0 ≤ n → (∀ x ∈ ls, 0 ≤ x) → ∀ x ∈ pL n ls, 0 ≤ x
  | [], _, _, _ => fun _ h => by cases h
  | l :: ls, n, hn, h => fun x hx => by
    have h1 := h l List.mem_cons_self
    rcases List.mem_cons.mp hx with z | z
    · omega
    · exact pL_nn ls (n - min n l) (by omega) (fun y hy => h y (List.mem_cons_of_mem _ hy)) x z
theorem pL_zero : ∀ (ls : List Int), (∀ x ∈ ls, 0 ≤ x) → pL 0 ls = ls
  | [], _ => rfl
  | l :: ls, h => by
    have h1 := h l List.mem_cons_self
    show (l - min 0 l) :: pL (0 - min 0 l) ls = _
    rw [show min 0 l = 0 by omega, Int.sub_zero, Int.sub_self, pL_zero ls (fun y hy => h y (List.mem_cons_of_mem _ hy))]
theorem pE_zero : ∀ (ls : List Int) (s : Int), (∀ x ∈ ls, 0 ≤ x) → pE 0 ls s = []
  | [], _, _ => rfl
  | l :: ls, s, h => by
    have h1 := h l List.mem_cons_self
    show (if 0 < min 0 l then [(s, min 0 l)] else []) ++ pE (0 - min 0 l) ls (s + 1) = _
    rw [show min 0 l = 0 by omega, if_neg (by omega), Int.sub_self, pE_zero ls _ (fun y hy => h y (List.mem_cons_of_mem _ hy))]; rfl
theorem pL_sum : ∀ (ls : List Int) (n : Int), 0 ≤ n → (∀ x ∈ ls, 0 ≤ x) → (pL n ls).sum = ls.sum - min n ls.sum
  | [], n, hn, _ => by simp [pL]; omega
  | l :: ls, n, hn, h => by
    have h1 := h l List.mem_cons_self
    have h2 : 0 ≤ ls.sum := by
      have : ∀ (ls : List Int), (∀ x ∈ ls, 0 ≤ x) → 0 ≤ ls.sum := fun ls => by
        induction ls with
        | nil => intro _; simp
        | cons a t ih => intro h; have := h a List.mem_cons_self; have := ih (fun y hy => h y (List.mem_cons_of_mem _ hy)); rw [List.sum_cons]; omega
      exact this ls (fun y hy => h y (List.mem_cons_of_mem _ hy))
    have ih := pL_sum ls (n - min n l) (by omega) (fun y hy => h y (List.mem_cons_of_mem _ hy))
    show (l - min n l) + (pL (n - min n l) ls).sum = l + ls.sum - min n (l + ls.sum)
    rw [ih]; omega
theorem pE_sum : ∀ (ls : List Int) (n s : Int), 0 ≤ n → (∀ x ∈ ls, 0 ≤ x) → ((pE n ls s).map (·.2)).sum = ls.sum - (pL n ls).sum
  | [], _, _, _, _ => by simp [pE, pL]
  | l :: ls, n, s, hn, h => by
    have h1 := h l List.mem_cons_self
    have ih := pE_sum ls (n - min n l) (s + 1) (by omega) (fun y hy => h y (List.mem_cons_of_mem _ hy))
    show (((if 0 < min n l then [(s, min n l)] else []) ++ pE (n - min n l) ls (s + 1)).map (·.2)).sum = l + ls.sum - ((l - min n l) + (pL (n - min n l) ls).sum)
    rw [List.map_append, List.sum_append, ih]
    split
    · simp; omega
    · simp; omega
theorem pE_key : ∀ (ls : List Int) (n s : Int), ∀ e ∈ pE n ls s, (s ≤ e.1 ∧ e.1 < s + (ls.length : Int)) ∧ 0 < e.2
  | [], _, _ => fun _ h => by cases h
  | l :: ls, n, s => fun e he => by
    have he' : e ∈ (if 0 < min n l then [(s, min n l)] else []) ++ pE (n - min n l) ls (s + 1) := he
    rw [List.length_cons]
    rcases List.mem_append.mp he' with z | z
    · split at z
      · rw [List.mem_singleton.mp z]; dsimp only; omega
      · cases z
    · have := pE_key ls _ _ e z; omega
theorem pE_nd : ∀ (ls : List Int) (n s : Int), ((pE n ls s).map (·.1)).Nodup
  | [], _, _ => List.nodup_nil
  | l :: ls, n, s => by
    show (((if 0 < min n l then [(s, min n l)] else []) ++ pE (n - min n l) ls (s + 1)).map (·.1)).Nodup
    rw [List.map_append, List.nodup_append]
    refine ⟨by split <;> simp, pE_nd ls _ _, fun a ha b hb => ?_⟩
    obtain ⟨e, he, rfl⟩ := List.mem_map.mp hb
    have := (pE_key ls _ _ e he).1.1
    split at ha
    · simp at ha; omega
    · cases ha
theorem uF_ge : ∀ (ls : List Int) (s g : Int), uF ls s = some g → s ≤ g ∧ g < s + (ls.length : Int)
  | [], _, _, h => by cases h
  | l :: ls, s, g, h => by
    have h' : (if 0 < l then some s else uF ls (s + 1)) = some g := h
    rw [List.length_cons]
    split at h'
    · cases h'; omega
    · have := uF_ge ls _ _ h'; omega
theorem pL_succ : ∀ (ls : List Int) (t : Int), 0 ≤ t → (∀ x ∈ ls, 0 ≤ x) → pL (t + 1) ls = uL (pL t ls)
  | [], _, _, _ => rfl
  | l :: ls, t, ht, h => by
    have h1 := h l List.mem_cons_self
    have h2 := fun y hy => h y (List.mem_cons_of_mem _ hy)
    show (l - min (t + 1) l) :: pL (t + 1 - min (t + 1) l) ls = if 0 < l - min t l then (l - min t l - 1) :: pL (t - min t l) ls else (l - min t l) :: uL (pL (t - min t l) ls)
    by_cases q : t + 1 ≤ l
    · rw [if_pos (by omega), show t + 1 - min (t + 1) l = t - min t l by omega, show l - min (t + 1) l = l - min t l - 1 by omega]
    · rw [if_neg (by omega), ← pL_succ ls (t - min t l) (by omega) h2, show t + 1 - min (t + 1) l = t - min t l + 1 by omega, show min (t + 1) l = min t l by omega]
theorem bE_skip {κ : Type} [DecidableEq κ] {A E : List (κ × Int)} {g : κ} (h : g ∉ A.map (·.1)) : bE (A ++ E) g = A ++ bE E g := by
  induction A with
  | nil => rfl
  | cons a A ih =>
    rw [List.map_cons, List.mem_cons] at h
    have h1 : a.1 ≠ g := fun z => h (.inl z.symm)
    have h2 := ih (fun z => h (.inr z))
    unfold bE at h2 ⊢
    show (if a.1 = g then (g, (if a.1 = g then some a.2 else gv (A ++ E) g).getD 0 + 1) :: rv (A ++ E) g ((if a.1 = g then some a.2 else gv (A ++ E) g).getD 0 + 1) else a :: pv (A ++ E) g ((if a.1 = g then some a.2 else gv (A ++ E) g).getD 0 + 1)) = _
    rw [if_neg h1, if_neg h1, h2]; rfl
theorem pE_succ : ∀ (ls : List Int) (t s : Int), 0 ≤ t → (∀ x ∈ ls, 0 ≤ x) → pE (t + 1) ls s = match uF (pL t ls) s with | none => pE t ls s | some g => bE (pE t ls s) g
  | [], _, _, _, _ => rfl
  | l :: ls, t, s, ht, h => by
    have h1 := h l List.mem_cons_self
    have h2 := fun y hy => h y (List.mem_cons_of_mem _ hy)
    show (if 0 < min (t + 1) l then [(s, min (t + 1) l)] else []) ++ pE (t + 1 - min (t + 1) l) ls (s + 1) = match (if 0 < l - min t l then some s else uF (pL (t - min t l) ls) (s + 1)) with | none => (if 0 < min t l then [(s, min t l)] else []) ++ pE (t - min t l) ls (s + 1) | some g => bE ((if 0 < min t l then [(s, min t l)] else []) ++ pE (t - min t l) ls (s + 1)) g
    by_cases q : t + 1 ≤ l
    · rw [if_pos (show 0 < min (t + 1) l by omega), if_pos (show 0 < l - min t l by omega), show t + 1 - min (t + 1) l = 0 by omega, show t - min t l = 0 by omega, pE_zero ls _ h2, show min (t + 1) l = t + 1 by omega, show min t l = t by omega]
      dsimp only
      by_cases q2 : 0 < t
      · rw [if_pos q2]
        show [(s, t + 1)] = (if s = s then (s, (if s = s then some t else none).getD 0 + 1) :: rv [] s _ else _)
        rw [if_pos rfl, if_pos rfl]; rfl
      · rw [if_neg q2, show t = 0 by omega]; rfl
    · rw [if_neg (show ¬ 0 < l - min t l by omega), show t + 1 - min (t + 1) l = t - min t l + 1 by omega, show min (t + 1) l = min t l by omega, pE_succ ls (t - min t l) (s + 1) (by omega) h2]
      cases hu : uF (pL (t - min t l) ls) (s + 1) with
      | none => rfl
      | some g =>
        dsimp only
        have hg := (uF_ge _ _ _ hu).1
        rw [bE_skip]
        split
        · intro z; simp at z; omega
        · intro z; cases z
/-! ### one sort asked for behind the other, the best first -/
def mp (a : Int) (E : List (Int × Int)) : List (Int × Int × Int) := E.map fun e => (e.1, a, e.2)
def stp (asks : List Int) (st : List Int × List (Int × Int × Int)) (a : Int) : List Int × List (Int × Int × Int) :=
  (st.1.take a.toNat ++ pL (gI asks a) (st.1.drop a.toNat), st.2 ++ mp a (pE (gI asks a) (st.1.drop a.toNat) a))
def alS (has asks : List Int) (k : Nat) : List Int × List (Int × Int × Int) := ((rgDn ((asks.length : Int) - 1) (-1)).take k).foldl (stp asks) (has, [])
def m_allotted (has asks : List Int) : List (Int × Int × Int) := srtD (dT3 PyData.int PyData.int PyData.int) (alS has asks asks.length).2
theorem alS_zero (has asks : List Int) : alS has asks 0 = (has, []) := rfl
theorem alS_succ (has asks : List Int) {k : Nat} (h : k < asks.length) : alS has asks (k + 1) = stp asks (alS has asks k) ((asks.length : Int) - 1 - (k : Int)) := by
  unfold alS
  rw [List.take_succ, rgDn_get (by omega), List.foldl_append]; rfl
structure AlS (has asks : List Int) (k : Nat) (st : List Int × List (Int × Int × Int)) : Prop where
  len : st.1.length = has.length
  nn : ∀ x ∈ st.1, 0 ≤ x
  low : st.1.take (asks.length - k) = has.take (asks.length - k)
  key : ∀ r ∈ st.2, ((asks.length : Int) - (k : Int) ≤ r.2.1 ∧ r.2.1 < (asks.length : Int)) ∧ (r.2.1 ≤ r.1 ∧ r.1 < (has.length : Int)) ∧ 0 < r.2.2
  nd : (st.2.map fun r => (r.1, r.2.1)).Nodup
  few : st.2.length ≤ k * has.length
theorem als_step {has asks : List Int} (hl : has.length = asks.length) (ha : ∀ x ∈ asks, 0 ≤ x) {k : Nat} (hk : k < asks.length) {st : List Int × List (Int × Int × Int)} (I : AlS has asks k st) : AlS has asks (k + 1) (stp asks st ((asks.length : Int) - 1 - (k : Int))) := by
  obtain ⟨a, hadef⟩ : ∃ a : Nat, a = asks.length - 1 - k := ⟨_, rfl⟩
  have e0 : ((asks.length : Int) - 1 - (k : Int)) = (a : Int) := by omega
  rw [e0]
  have e1 : (a : Int).toNat = a := by omega
  have g0 : 0 ≤ gI asks (a : Int) := ha _ (gI_mem (by omega))
  have ll := I.len
  unfold stp
  rw [e1]
  have hnn := fun x hx => I.nn x (List.mem_of_mem_drop (i := a) hx)
  refine ⟨?_, fun x hx => ?_, ?_, fun r hr => ?_, ?_, ?_⟩
  · show (st.1.take a ++ pL _ (st.1.drop a)).length = _
    rw [List.length_append, pL_len, List.length_take, List.length_drop]; omega
  · rcases List.mem_append.mp hx with z | z
    · exact I.nn x (List.mem_of_mem_take z)
    · exact pL_nn _ _ g0 hnn x z
  · show (st.1.take a ++ pL _ (st.1.drop a)).take (asks.length - (k + 1)) = _
    rw [show asks.length - (k + 1) = a by omega, List.take_left' (by rw [List.length_take]; omega)]
    have := congrArg (List.take a) I.low
    rw [List.take_take, List.take_take] at this
    rw [show min a (asks.length - k) = a by omega] at this
    exact this
  · rcases List.mem_append.mp hr with z | z
    · have := I.key r z; omega
    · obtain ⟨e, he, rfl⟩ := List.mem_map.mp z
      have := pE_key _ _ _ e he
      rw [List.length_drop] at this
      dsimp only; omega
  · show ((st.2 ++ mp a _).map fun r => (r.1, r.2.1)).Nodup
    rw [List.map_append, List.nodup_append]
    refine ⟨I.nd, ?_, fun p hp q hq => ?_⟩
    · unfold mp
      rw [List.map_map]
      have h := pE_nd (st.1.drop a) (gI asks (a : Int)) (a : Int)
      have : ((pE (gI asks (a : Int)) (st.1.drop a) (a : Int)).map ((fun r : Int × Int × Int => (r.1, r.2.1)) ∘ fun e => (e.1, (a : Int), e.2))) = ((pE (gI asks (a : Int)) (st.1.drop a) (a : Int)).map (·.1)).map fun s => (s, (a : Int)) := by rw [List.map_map]; rfl
      rw [this]
      exact List.Pairwise.map (fun s => (s, (a : Int))) (fun x y hxy z => hxy (congrArg Prod.fst z)) h
    · obtain ⟨r, hr, rfl⟩ := List.mem_map.mp hp
      obtain ⟨r', hr', rfl⟩ := List.mem_map.mp hq
      obtain ⟨e, he, rfl⟩ := List.mem_map.mp hr'
      have := I.key r hr
      intro z
      have := congrArg Prod.snd z
      dsimp only at this
      omega
  · show (st.2 ++ mp a _).length ≤ _
    have : (pE (gI asks (a : Int)) (st.1.drop a) (a : Int)).length ≤ (st.1.drop a).length := by
      have : ∀ (ls : List Int) (n s : Int), (pE n ls s).length ≤ ls.length := fun ls => by
        induction ls with
        | nil => intro _ _; exact Nat.le_refl _
        | cons l ls ih =>
          intro n s
          show ((if 0 < min n l then [(s, min n l)] else []) ++ pE (n - min n l) ls (s + 1)).length ≤ ls.length + 1
          rw [List.length_append]
          have := ih (n - min n l) (s + 1)
          split <;> simp <;> omega
      exact this _ _ _
    rw [List.length_append, show (mp (a : Int) _).length = _ from List.length_map _, Nat.add_mul, Nat.one_mul]
    have := I.few
    rw [List.length_drop] at *
    omega
theorem als_is {has asks : List Int} (hl : has.length = asks.length) (hh : ∀ x ∈ has, 0 ≤ x) (ha : ∀ x ∈ asks, 0 ≤ x) : ∀ k, k ≤ asks.length → AlS has asks k (alS has asks k)
  | 0, _ => ⟨rfl, hh, rfl, fun _ h => (by cases h), List.nodup_nil, Nat.zero_le _⟩
  | k + 1, h => by
    rw [alS_succ has asks (by omega)]
    exact als_step hl ha (by omega) (als_is hl hh ha k (by omega))
end GP

namespace GP
open PySem PySem.Spec PyProof.Rows L2 G
/-! ### what lacks -/
def m_over (h a : List Int) : List Int := (List.range h.length).map fun k => (h.drop k).sum - (a.drop k).sum
def m_lacking (h a : List Int) : Int := lmax (0 :: (m_over h a).map fun n => -n)
theorem over_len (h a : List Int) : (m_over h a).length = h.length := by unfold m_over; rw [List.length_map, List.length_range]
theorem over_at (h a : List Int) {k : Nat} (hk : k < h.length) : gI (m_over h a) (k : Int) = (h.drop k).sum - (a.drop k).sum := by
  unfold m_over
  rw [gI_nat, List.getElem!_eq_getElem?_getD, List.getElem?_map, List.getElem?_range hk]; rfl
theorem sum_nn : ∀ (ls : List Int), (∀ x ∈ ls, 0 ≤ x) → 0 ≤ ls.sum
  | [], _ => by simp
  | a :: t, h => by have := h a List.mem_cons_self; have := sum_nn t (fun y hy => h y (List.mem_cons_of_mem _ hy)); rw [List.sum_cons]; omega
/-- what is not given of all that is asked for from place k on -/
structure Un (has asks : List Int) (k : Nat) (u : Int) : Prop where
  nn : 0 ≤ u
  ge : ∀ j, k ≤ j → j < asks.length → (asks.drop j).sum - (has.drop j).sum ≤ u
  is : u = 0 ∨ ∃ j, k ≤ j ∧ j < asks.length ∧ u = (asks.drop j).sum - (has.drop j).sum
theorem drop_at {xs : List Int} {k : Nat} (h : k < xs.length) : (xs.drop k).sum = gI xs (k : Int) + (xs.drop (k + 1)).sum := by
  rw [List.drop_eq_getElem_cons h, List.sum_cons, gI_nat, getElem!_pos xs k h]
theorem perm_sum {a b : List Int} (h : a.Perm b) : a.sum = b.sum := by
  induction h with
  | nil => rfl
  | cons x _ ih => rw [List.sum_cons, List.sum_cons, ih]
  | swap x y l => rw [List.sum_cons, List.sum_cons, List.sum_cons, List.sum_cons]; omega
  | trans _ _ i1 i2 => exact i1.trans i2
def gvn (F : List (Int × Int × Int)) : Int := (F.map fun r => r.2.2).sum
theorem als_sum {has asks : List Int} (hl : has.length = asks.length) (hh : ∀ x ∈ has, 0 ≤ x) (ha : ∀ x ∈ asks, 0 ≤ x) : ∀ k, k ≤ asks.length →
    ((alS has asks k).1.drop (asks.length - k)).sum = (has.drop (asks.length - k)).sum - gvn (alS has asks k).2 ∧ Un has asks (asks.length - k) ((asks.drop (asks.length - k)).sum - gvn (alS has asks k).2)
  | 0, _ => by
    refine ⟨?_, ?_, ?_, ?_⟩
    · rw [alS_zero]; show (has.drop (asks.length - 0)).sum = (has.drop (asks.length - 0)).sum - (0 : Int); omega
    · rw [alS_zero]; show (0 : Int) ≤ _ - (0 : Int); rw [List.drop_of_length_le (by omega)]; simp
    · intro j h1 h2; omega
    · left; rw [alS_zero]; show _ - (0 : Int) = 0; rw [List.drop_of_length_le (by omega)]; simp
  | k + 1, h => by
    obtain ⟨i1, i2⟩ := als_sum hl hh ha k (by omega)
    have I := als_is hl hh ha k (by omega)
    rw [alS_succ has asks (by omega)]
    obtain ⟨a, hadef⟩ : ∃ a : Nat, a = asks.length - 1 - k := ⟨_, rfl⟩
    have e0 : ((asks.length : Int) - 1 - (k : Int)) = (a : Int) := by omega
    rw [e0, show asks.length - (k + 1) = a by omega]
    rw [show asks.length - k = a + 1 by omega] at i1 i2
    generalize alS has asks k = st at i1 i2 I
    have g0 : 0 ≤ gI asks (a : Int) := ha _ (gI_mem (by omega))
    have ll := I.len
    have hnn := fun x hx => I.nn x (List.mem_of_mem_drop (i := a) hx)
    have eG : gvn (stp asks st (a : Int)).2 = gvn st.2 + ((st.1.drop a).sum - (pL (gI asks (a : Int)) (st.1.drop a)).sum) := by
      unfold stp gvn mp
      rw [List.map_append, List.sum_append, List.map_map]
      have := pE_sum (st.1.drop a) (gI asks (a : Int)) (a : Int) g0 hnn
      rw [show ((fun r : Int × Int × Int => r.2.2) ∘ fun e : Int × Int => (e.1, (a : Int), e.2)) = (fun e : Int × Int => e.2) from rfl]
      rw [show (a : Int).toNat = a by omega]
      rw [this]
    have eL : (stp asks st (a : Int)).1.drop a = pL (gI asks (a : Int)) (st.1.drop a) := by
      unfold stp
      rw [show (a : Int).toNat = a by omega]
      exact List.drop_left' (by rw [List.length_take]; omega)
    have eS := pL_sum (st.1.drop a) (gI asks (a : Int)) g0 hnn
    have hla : a < has.length := by omega
    have eD := drop_at (xs := st.1) (k := a) (by omega)
    have eD2 := drop_at (xs := has) (k := a) (by omega)
    have eD3 := drop_at (xs := asks) (k := a) (by omega)
    have eg : gI st.1 (a : Int) = gI has (a : Int) := by
      have := congrArg (fun l => l[a]?) I.low
      rw [List.getElem?_take, List.getElem?_take, if_pos (by omega)] at this
      rw [gI_nat, gI_nat, List.getElem!_eq_getElem?_getD, List.getElem!_eq_getElem?_getD, this, if_pos (by omega)]
    have hgn : 0 ≤ gI has (a : Int) := hh _ (gI_mem (by omega))
    refine ⟨?_, ?_, ?_, ?_⟩
    · rw [eL, eG]; omega
    · rw [eG]; have := i2.nn; have := sum_nn _ hnn; omega
    · intro j h1 h2
      rw [eG]
      by_cases q : j = a
      · subst q; omega
      · have := i2.ge j (by omega) h2; omega
    · rw [eG]
      by_cases q : gI asks (a : Int) ≤ (st.1.drop a).sum
      · rcases i2.is with z | ⟨j, j1, j2, z⟩
        · left; omega
        · right; exact ⟨j, by omega, j2, by omega⟩
      · right; exact ⟨a, Nat.le_refl _, by omega, by omega⟩
theorem un_is {has asks : List Int} (hl : has.length = asks.length) {u : Int} (U : Un has asks 0 u) : u = m_lacking has asks := by
  have mem : ∀ x, x ∈ (0 :: (m_over has asks).map fun n => -n) ↔ x = 0 ∨ ∃ j, j < asks.length ∧ x = (asks.drop j).sum - (has.drop j).sum := fun x => by
    rw [List.mem_cons, List.mem_map]
    refine or_congr Iff.rfl ⟨fun ⟨n, hn, e⟩ => ?_, fun ⟨j, hj, e⟩ => ?_⟩
    · unfold m_over at hn
      obtain ⟨j, hj, rfl⟩ := List.mem_map.mp hn
      have := List.mem_range.mp hj
      exact ⟨j, by omega, by omega⟩
    · exact ⟨_, List.mem_map.mpr ⟨j, List.mem_range.mpr (by omega), rfl⟩, by omega⟩
  have h1 := (mem _).mp (lmax_mem (ns := 0 :: (m_over has asks).map fun n => -n) (by simp))
  have h2 := fun x hx => lmax_le (ns := 0 :: (m_over has asks).map fun n => -n) x ((mem x).mpr hx)
  unfold m_lacking
  refine Int.le_antisymm ?_ ?_
  · rcases U.is with z | ⟨j, _, hj, z⟩
    · exact h2 _ (.inl z)
    · exact h2 _ (.inr ⟨j, hj, z⟩)
  · rcases h1 with z | ⟨j, hj, z⟩
    · rw [z]; exact U.nn
    · rw [z]; exact U.ge j (Nat.zero_le _) hj
theorem allotted_sum {has asks : List Int} (hl : has.length = asks.length) (hh : ∀ x ∈ has, 0 ≤ x) (ha : ∀ x ∈ asks, 0 ≤ x) : gvn (m_allotted has asks) = asks.sum - m_lacking has asks := by
  have h := (als_sum hl hh ha asks.length (Nat.le_refl _)).2
  rw [Nat.sub_self, List.drop_zero] at h
  have e := un_is hl h
  have ep : gvn (m_allotted has asks) = gvn (alS has asks asks.length).2 := perm_sum ((srtD_perm _ _).map _)
  omega
/-! ### what can be given -/
abbrev Row := Int × Int × Option Int
def sumBy (p : Row → Bool) (told : List Row) : Int := ((told.filter p).map fun r => vI r.2.2).sum
structure Given (has asks : List Int) (told : List Row) : Prop where
  row : ∀ r ∈ told, (0 ≤ r.2.1 ∧ r.2.1 ≤ r.1 ∧ r.1 < (has.length : Int)) ∧ ∃ l, r.2.2 = some l ∧ 1 ≤ l
  nd : (told.map fun r => (r.1, r.2.1)).Nodup
  had : ∀ k : Nat, k < has.length → sumBy (fun r => decide (r.1 = (k : Int))) told ≤ gI has (k : Int)
  ask : ∀ k : Nat, k < has.length → sumBy (fun r => decide (r.2.1 = (k : Int))) told ≤ gI asks (k : Int)
open Classical in
noncomputable def m_is_given (has asks : List Int) (told : List Row) : Bool := decide (Given has asks told)
def tot3 (told : List Row) : Int := (told.map fun r => vI r.2.2).sum
theorem sumBy_le {p q : Row → Bool} : ∀ {told : List Row}, (∀ r ∈ told, 0 ≤ vI r.2.2) → (∀ r ∈ told, p r = true → q r = true) → sumBy p told ≤ sumBy q told
  | [], _, _ => Int.le_refl _
  | r :: t, h, k => by
    have ih := sumBy_le (p := p) (q := q) (told := t) (fun x hx => h x (List.mem_cons_of_mem _ hx)) (fun x hx => k x (List.mem_cons_of_mem _ hx))
    have h1 := h r List.mem_cons_self
    have h2 := k r List.mem_cons_self
    unfold sumBy at *
    rw [List.filter_cons, List.filter_cons]
    by_cases hp : p r = true
    · rw [if_pos hp, if_pos (h2 hp), List.map_cons, List.map_cons, List.sum_cons, List.sum_cons]; omega
    · rw [if_neg hp]
      split
      · rw [List.map_cons, List.sum_cons]; omega
      · exact ih
theorem sumBy_add {p q : Row → Bool} : ∀ (told : List Row), sumBy p told + sumBy (fun r => !p r) told = tot3 told
  | [] => rfl
  | r :: t => by
    have ih := sumBy_add (p := p) (q := q) t
    unfold sumBy tot3 at *
    rw [List.filter_cons, List.filter_cons, List.map_cons, List.sum_cons]
    cases hp : p r with
    | true => rw [if_pos rfl, if_neg (by simp), List.map_cons, List.sum_cons]; omega
    | false => rw [if_neg (by simp), if_pos (by rfl), List.map_cons, List.sum_cons]; omega
/-- a sum over a stretch of keys -/
theorem sumBy_from {has : List Int} {told : List Row} (key : Row → Int) (n : Nat) (hn : n = has.length) (hk : ∀ r ∈ told, 0 ≤ key r ∧ key r < (n : Int)) (hb : ∀ k : Nat, k < n → sumBy (fun r => decide (key r = (k : Int))) told ≤ gI has (k : Int)) : ∀ (d j : Nat), j + d = n → sumBy (fun r => decide ((j : Int) ≤ key r)) told ≤ (has.drop j).sum
  | 0, j, h => by
    rw [List.drop_of_length_le (by omega)]
    have : told.filter (fun r => decide ((j : Int) ≤ key r)) = [] := List.filter_eq_nil_iff.mpr fun r hr => by have := hk r hr; simp; omega
    unfold sumBy
    rw [this]; simp
  | d + 1, j, h => by
    have ih := sumBy_from key n hn hk hb d (j + 1) (by omega)
    have h1 := hb j (by omega)
    have h2 := drop_at (xs := has) (k := j) (by omega)
    have h3 : ∀ told : List Row, sumBy (fun r => decide ((j : Int) ≤ key r)) told = sumBy (fun r => decide (key r = (j : Int))) told + sumBy (fun r => decide (((j + 1 : Nat) : Int) ≤ key r)) told := fun told => by
      induction told with
      | nil => rfl
      | cons r t ih =>
        unfold sumBy at *
        rw [List.filter_cons, List.filter_cons, List.filter_cons]
        by_cases q1 : key r = (j : Int)
        · rw [if_pos (decide_eq_true (by omega)), if_pos (decide_eq_true q1), if_neg (by simp; omega), List.map_cons, List.map_cons, List.sum_cons, List.sum_cons]; omega
        · rw [if_neg (show ¬ decide (key r = (j : Int)) = true by simpa using q1)]
          by_cases q2 : (j : Int) ≤ key r
          · rw [if_pos (decide_eq_true q2), if_pos (decide_eq_true (by omega)), List.map_cons, List.map_cons, List.sum_cons, List.sum_cons]; omega
          · rw [if_neg (by simpa using q2), if_neg (by simp; omega)]; exact ih
    rw [h3]
    omega
theorem given_le {has asks : List Int} (hl : has.length = asks.length) (hh : ∀ x ∈ has, 0 ≤ x) {told : List Row} (G : Given has asks told) : (∀ j : Nat, j < has.length → (asks.drop j).sum - (has.drop j).sum ≤ asks.sum - tot3 told) ∧ tot3 told ≤ asks.sum := by
  have nn : ∀ r ∈ told, 0 ≤ vI r.2.2 := fun r hr => by
    obtain ⟨_, l, h1, h2⟩ := G.row r hr
    rw [h1]; show 0 ≤ l; omega
  have A := fun j hj => sumBy_from (has := has) (told := told) (fun r => r.1) has.length rfl (fun r hr => by have := (G.row r hr).1; omega) G.had (has.length - j) j hj
  have B := sumBy_from (has := asks) (told := told) (fun r => r.2.1) has.length hl (fun r hr => by have := (G.row r hr).1; omega) G.ask has.length 0 (by omega)
  have T0 : sumBy (fun r => decide (((0 : Nat) : Int) ≤ r.2.1)) told = tot3 told := by
    unfold sumBy tot3
    rw [List.filter_eq_self.mpr fun r hr => by have := (G.row r hr).1; simp; omega]
  rw [T0, List.drop_zero] at B
  refine ⟨fun j hj => ?_, B⟩
  have a1 := A j (by omega)
  -- asked from j on comes of sorts from j on
  have s1 : sumBy (fun r => decide ((j : Int) ≤ r.2.1)) told ≤ sumBy (fun r => decide ((j : Int) ≤ r.1)) told := sumBy_le nn fun r hr q => by
    have := (G.row r hr).1
    have := of_decide_eq_true q
    exact decide_eq_true (by omega)
  have s2 := sumBy_add (p := fun r : Row => decide ((j : Int) ≤ r.2.1)) (q := fun _ => true) told
  -- below j: no more than is asked
  have s3 : ∀ (d : Nat), d ≤ j → sumBy (fun r => !decide ((d : Int) ≤ r.2.1)) told ≤ (asks.take d).sum := fun d => by
    induction d with
    | zero =>
      intro _
      have : told.filter (fun r => !decide (((0 : Nat) : Int) ≤ r.2.1)) = [] := List.filter_eq_nil_iff.mpr fun r hr => by have := (G.row r hr).1; simp; omega
      unfold sumBy
      rw [this]; simp
    | succ d ih =>
      intro hd
      have i1 := ih (by omega)
      have i2 := G.ask d (by omega)
      have h3 : ∀ told : List Row, sumBy (fun r => !decide (((d + 1 : Nat) : Int) ≤ r.2.1)) told = sumBy (fun r => decide (r.2.1 = (d : Int))) told + sumBy (fun r => !decide ((d : Int) ≤ r.2.1)) told := fun told => by
        induction told with
        | nil => rfl
        | cons r t ih =>
          unfold sumBy at *
          rw [List.filter_cons, List.filter_cons, List.filter_cons]
          by_cases q1 : r.2.1 = (d : Int)
          · rw [if_pos (by simp; omega), if_pos (decide_eq_true q1), if_neg (by simp; omega), List.map_cons, List.map_cons, List.sum_cons, List.sum_cons]; omega
          · rw [if_neg (show ¬ decide (r.2.1 = (d : Int)) = true by simpa using q1)]
            by_cases q2 : (d : Int) ≤ r.2.1
            · rw [if_neg (by simp; omega), if_neg (by simp; omega)]; exact ih
            · rw [if_pos (by simp; omega), if_pos (by simp; omega), List.map_cons, List.map_cons, List.sum_cons, List.sum_cons]; omega
      rw [h3, List.take_succ, List.sum_append, List.getElem?_eq_getElem (by omega)]
      rw [gI_nat, getElem!_pos asks d (by omega)] at i2
      simp
      omega
  have s4 := s3 j (Nat.le_refl _)
  have s5 : asks.sum = (asks.take j).sum + (asks.drop j).sum := by rw [← List.sum_append, List.take_append_drop]
  omega
theorem given_short {has asks : List Int} (hl : has.length = asks.length) (hh : ∀ x ∈ has, 0 ≤ x) {told : List Row} (G : Given has asks told) : m_lacking has asks ≤ asks.sum - tot3 told := by
  have L := given_le hl hh G
  unfold m_lacking
  have h1 := lmax_mem (ns := 0 :: (m_over has asks).map fun n => -n) (by simp)
  rcases List.mem_cons.mp h1 with z | z
  · rw [z]; omega
  · obtain ⟨n, hn, e⟩ := List.mem_map.mp z
    unfold m_over at hn
    obtain ⟨j, hj, rfl⟩ := List.mem_map.mp hn
    have := L.1 j (by have := List.mem_range.mp hj; omega)
    rw [← e]
    omega
end GP

namespace GP
open PySem PySem.Spec PyProof.Rows L2 G
/-! ### load by load -/
theorem uF_ge2 : ∀ (ls : List Int) (s g : Int), uF ls s = some g → 0 < gI ls (g - s) ∧ uL ls = setI ls (g - s) (gI ls (g - s) - 1)
  | [], _, _, h => by cases h
  | l :: ls, s, g, h => by
    have h' : (if 0 < l then some s else uF ls (s + 1)) = some g := h
    by_cases q : 0 < l
    · rw [if_pos q] at h'
      cases h'
      rw [Int.sub_self]
      exact ⟨q, by show (if 0 < l then (l - 1) :: ls else l :: uL ls) = _; rw [if_pos q]; rfl⟩
    · rw [if_neg q] at h'
      have b := uF_ge ls _ _ h'
      obtain ⟨i1, i2⟩ := uF_ge2 ls _ _ h'
      obtain ⟨n, hn⟩ : ∃ n : Nat, g - (s + 1) = (n : Int) := ⟨(g - (s + 1)).toNat, by omega⟩
      rw [hn] at i1 i2
      rw [show g - s = ((n + 1 : Nat) : Int) by omega]
      have e1 : gI (l :: ls) ((n + 1 : Nat) : Int) = gI ls (n : Int) := by rw [gI_nat, gI_nat]; simp [List.getElem!_eq_getElem?_getD]
      have e2 : setI (l :: ls) ((n + 1 : Nat) : Int) (gI ls (n : Int) - 1) = l :: setI ls (n : Int) (gI ls (n : Int) - 1) := by
        unfold setI
        rw [if_neg (by omega), if_neg (by omega), show ((n + 1 : Nat) : Int).toNat = n + 1 by omega, show ((n : Nat) : Int).toNat = n by omega]; rfl
      rw [e1, e2, ← i2]
      exact ⟨i1, by show (if 0 < l then (l - 1) :: ls else l :: uL ls) = _; rw [if_neg q]⟩
theorem uF_none : ∀ (ls : List Int) (s : Int), uF ls s = none → uL ls = ls
  | [], _, _ => rfl
  | l :: ls, s, h => by
    have h' : (if 0 < l then some s else uF ls (s + 1)) = none := h
    by_cases q : 0 < l
    · rw [if_pos q] at h'; cases h'
    · rw [if_neg q] at h'
      show (if 0 < l then (l - 1) :: ls else l :: uL ls) = _
      rw [if_neg q, uF_none ls _ h']
/-- the sorts that are left and good, told by their places -/
theorem goods (L : List Int) (a : Nat) : ∀ (d j : Nat), j + d = L.length → a ≤ j → ((List.range d).filter fun i : Nat => decide (0 < gI L ((j : Int) + (i : Int)))).head? = (uF (L.drop j) (j : Int)).map fun g => (g - (j : Int)).toNat
  | 0, j, h, _ => by rw [List.drop_of_length_le (by omega)]; rfl
  | d + 1, j, h, ha => by
    have ih := goods L a d (j + 1) (by omega) (by omega)
    rw [List.drop_eq_getElem_cons (by omega), List.range_succ_eq_map, List.filter_cons]
    have e0 : gI L ((j : Int) + ((0 : Nat) : Int)) = L[j]'(by omega) := by
      rw [show (j : Int) + ((0 : Nat) : Int) = (j : Int) by omega, gI_nat, getElem!_pos L j (by omega)]
    rw [e0]
    show _ = (if 0 < L[j]'(by omega) then some (j : Int) else uF (L.drop (j + 1)) ((j : Int) + 1)).map _
    by_cases q : 0 < L[j]'(by omega)
    · rw [if_pos (decide_eq_true q), if_pos q]; simp
    · rw [if_neg (by simpa using q), if_neg q, List.filter_map, List.head?_map]
      have e1 : ((fun i : Nat => decide (0 < gI L ((j : Int) + (i : Int)))) ∘ Nat.succ) = fun i : Nat => decide (0 < gI L (((j + 1 : Nat) : Int) + (i : Int))) := by
        funext i
        show decide (0 < gI L ((j : Int) + ((i + 1 : Nat) : Int))) = _
        rw [show (j : Int) + ((i + 1 : Nat) : Int) = ((j + 1 : Nat) : Int) + (i : Int) by omega]
      rw [e1, ih, show (j : Int) + 1 = ((j + 1 : Nat) : Int) by omega]
      cases hu : uF (L.drop (j + 1)) ((j + 1 : Nat) : Int) with
      | none => rfl
      | some g =>
        have := (uF_ge _ _ _ hu).1
        show some (Nat.succ (g - ((j + 1 : Nat) : Int)).toNat) = some (g - (j : Int)).toNat
        congr 1; omega
abbrev D3 : Type := List ((Int × Int) × Int)
def dOf (F : List (Int × Int × Int)) : D3 := F.map fun r => ((r.1, r.2.1), r.2.2)
theorem dOf_app (A B : List (Int × Int × Int)) : dOf (A ++ B) = dOf A ++ dOf B := List.map_append
theorem dOf_keys (F : List (Int × Int × Int)) : (dOf F).map (·.1) = F.map fun r => (r.1, r.2.1) := by unfold dOf; rw [List.map_map]; rfl
/-- the entries of one place that is asked for, as a dict -/
def dE (a : Int) (E : List (Int × Int)) : D3 := E.map fun e => ((e.1, a), e.2)
theorem dOf_mp (a : Int) (E : List (Int × Int)) : dOf (mp a E) = dE a E := by unfold dOf mp dE; rw [List.map_map]; rfl
theorem gv_dE (a g : Int) : ∀ E : List (Int × Int), gv (dE a E) (g, a) = gv E g
  | [] => rfl
  | e :: E => by
    show (if (e.1, a) = (g, a) then some e.2 else gv (dE a E) (g, a)) = if e.1 = g then some e.2 else gv E g
    rw [gv_dE a g E]
    by_cases q : e.1 = g
    · rw [if_pos q, if_pos (by rw [q])]
    · rw [if_neg q, if_neg (fun z => q (congrArg Prod.fst z))]
theorem rv_dE (a g v : Int) : ∀ E : List (Int × Int), rv (dE a E) (g, a) v = dE a (rv E g v)
  | [] => rfl
  | e :: E => by
    have ih := rv_dE a g v E
    show (if (e.1, a) = (g, a) then ((e.1, a), v) else ((e.1, a), e.2)) :: rv (dE a E) (g, a) v = dE a ((if e.1 = g then (e.1, v) else e) :: rv E g v)
    rw [ih]
    by_cases q : e.1 = g
    · rw [if_pos q, if_pos (by rw [q])]; rfl
    · rw [if_neg q, if_neg (fun z => q (congrArg Prod.fst z))]; rfl
theorem pv_dE (a g v : Int) : ∀ E : List (Int × Int), pv (dE a E) (g, a) v = dE a (pv E g v)
  | [] => rfl
  | e :: E => by
    show (if (e.1, a) = (g, a) then ((g, a), v) :: rv (dE a E) (g, a) v else ((e.1, a), e.2) :: pv (dE a E) (g, a) v) = dE a (if e.1 = g then (g, v) :: rv E g v else e :: pv E g v)
    rw [pv_dE a g v E, rv_dE]
    by_cases q : e.1 = g
    · rw [if_pos q, if_pos (by rw [q])]; rfl
    · rw [if_neg q, if_neg (fun z => q (congrArg Prod.fst z))]; rfl
theorem bE_dE (a g : Int) (E : List (Int × Int)) : bE (dE a E) (g, a) = dE a (bE E g) := by unfold bE; rw [gv_dE, pv_dE]
/-- one more load -/
structure LL (L0 : List Int) (D0 : D3) (a : Nat) (t : Int) (left : List Int) (D : D3) : Prop where
  l : left = L0.take a ++ pL t (L0.drop a)
  d : D = D0 ++ dE (a : Int) (pE t (L0.drop a) (a : Int))
theorem LL.len {L0 left : List Int} {D0 D : D3} {a : Nat} {t : Int} (h : LL L0 D0 a t left D) (ha : a ≤ L0.length) : left.length = L0.length := by
  rw [h.l, List.length_append, pL_len, List.length_take, List.length_drop]; omega
theorem ll_zero {L0 : List Int} {D0 : D3} {a : Nat} (hn : ∀ x ∈ L0, 0 ≤ x) : LL L0 D0 a 0 L0 D0 := by
  have h := fun x hx => hn x (List.mem_of_mem_drop (i := a) hx)
  exact ⟨by rw [pL_zero _ h, List.take_append_drop], by rw [pE_zero _ _ h]; simp [dE]⟩
theorem ll_drop {L0 left : List Int} {D0 D : D3} {a : Nat} {t : Int} (h : LL L0 D0 a t left D) (ha : a ≤ L0.length) : left.drop a = pL t (L0.drop a) := by
  rw [h.l]; exact List.drop_left' (by rw [List.length_take]; omega)
def gds (left : List Int) (a : Nat) : List Int := ((List.range ((left.length : Int) - (a : Int)).toNat).filter fun i : Nat => decide (0 < gI left ((a : Int) + (i : Int)))).map fun i : Nat => (a : Int) + (i : Int)
theorem gds_head {left : List Int} {a : Nat} (ha : a ≤ left.length) : (gds left a).head? = uF (left.drop a) (a : Int) := by
  unfold gds
  rw [List.head?_map, show ((left.length : Int) - (a : Int)).toNat = left.length - a by omega, goods left a (left.length - a) a (by omega) (Nat.le_refl _)]
  cases hu : uF (left.drop a) (a : Int) with
  | none => rfl
  | some g =>
    have := (uF_ge _ _ _ hu).1
    show some ((a : Int) + ((g - (a : Int)).toNat : Int)) = some g
    congr 1; omega
theorem ll_skip {L0 left : List Int} {D0 D : D3} {a : Nat} {t : Int} (hn : ∀ x ∈ L0, 0 ≤ x) (ht : 0 ≤ t) (ha : a ≤ L0.length) (h : LL L0 D0 a t left D) (hg : gds left a = []) : LL L0 D0 a (t + 1) left D := by
  have hnn := fun x hx => hn x (List.mem_of_mem_drop (i := a) hx)
  have e := gds_head (left := left) (a := a) (by rw [h.len ha]; exact ha)
  rw [hg, ll_drop h ha] at e
  have e' : uF (pL t (L0.drop a)) (a : Int) = none := e.symm
  refine ⟨?_, ?_⟩
  · rw [pL_succ _ _ ht hnn, uF_none _ _ e']; exact h.l
  · rw [pE_succ _ _ _ ht hnn, e']; exact h.d
theorem ll_take {L0 left : List Int} {D0 D : D3} {a : Nat} {t g : Int} {r : List Int} (hn : ∀ x ∈ L0, 0 ≤ x) (ht : 0 ≤ t) (ha : a ≤ L0.length) (h : LL L0 D0 a t left D) (hD : ∀ k ∈ D0.map (·.1), k.2 ≠ (a : Int)) (hg : gds left a = g :: r) :
    LL L0 D0 a (t + 1) (setI left g (gI left g - 1)) (pv D (g, (a : Int)) ((gv D (g, (a : Int))).getD 0 + 1)) ∧ (0 ≤ g ∧ (a : Int) ≤ g ∧ g < (left.length : Int)) := by
  have hnn := fun x hx => hn x (List.mem_of_mem_drop (i := a) hx)
  have ll := h.len ha
  have e := gds_head (left := left) (a := a) (by rw [ll]; exact ha)
  rw [hg, ll_drop h ha] at e
  have e' : uF (pL t (L0.drop a)) (a : Int) = some g := e.symm
  have b := uF_ge _ _ _ e'
  rw [pL_len, List.length_drop] at b
  obtain ⟨u1, u2⟩ := uF_ge2 _ _ _ e'
  refine ⟨⟨?_, ?_⟩, by omega⟩
  · rw [pL_succ _ _ ht hnn, u2]
    obtain ⟨n, hn'⟩ : ∃ n : Nat, g - (a : Int) = (n : Int) := ⟨(g - (a : Int)).toNat, by omega⟩
    have e1 : gI left g = gI (pL t (L0.drop a)) (n : Int) := by
      rw [h.l, show g = ((a + n : Nat) : Int) by omega, gI_nat, gI_nat, List.getElem!_eq_getElem?_getD, List.getElem!_eq_getElem?_getD, List.getElem?_append_right (by rw [List.length_take]; omega), List.length_take, show a + n - min a L0.length = n by omega]
    rw [hn', e1, h.l]
    unfold setI
    rw [if_neg (by omega), if_neg (by omega), show g.toNat = a + n by omega, show ((n : Nat) : Int).toNat = n by omega, List.set_append_right _ _ (by rw [List.length_take]; omega), List.length_take, show a + n - min a L0.length = n by omega]
  · rw [pE_succ _ _ _ ht hnn, e']
    show bE D (g, (a : Int)) = _
    rw [h.d, bE_skip (fun z => hD _ z rfl), bE_dE]
theorem ll_end {asks L0 left : List Int} {F : List (Int × Int × Int)} {D : D3} {a : Nat} (h : LL L0 (dOf F) a (gI asks (a : Int)) left D) : (left, D) = ((stp asks (L0, F) (a : Int)).1, dOf (stp asks (L0, F) (a : Int)).2) := by
  unfold stp
  rw [dOf_app, dOf_mp, show ((a : Nat) : Int).toNat = a by omega, ← h.l, ← h.d]
/-- the dict told as rows -/
theorem gD_dOf {F : List (Int × Int × Int)} (nd : (F.map fun r => (r.1, r.2.1)).Nodup) {r : Int × Int × Int} (hr : r ∈ F) : gD (dOf F) (r.1, r.2.1) = r.2.2 :=
  gD_some (gv_nd (k := (r.1, r.2.1)) (v := r.2.2) (by rw [dOf_keys]; exact nd) (List.mem_map.mpr ⟨r, hr, rfl⟩))
theorem rows_of {F : List (Int × Int × Int)} (nd : (F.map fun r => (r.1, r.2.1)).Nodup) : ((dOf F).map (·.1)).map (fun p => (p.1, p.2, gD (dOf F) p)) = F := by
  rw [dOf_keys, List.map_map]
  have : F.map ((fun p : Int × Int => (p.1, p.2, gD (dOf F) p)) ∘ fun r : Int × Int × Int => (r.1, r.2.1)) = F.map id := List.map_congr_left fun r hr => by
    show (r.1, r.2.1, gD (dOf F) (r.1, r.2.1)) = r
    rw [gD_dOf nd hr]
  rw [this, List.map_id]
theorem keys_some {F : List (Int × Int × Int)} {p : Int × Int} (h : p ∈ (dOf F).map (·.1)) : (gv (dOf F) p).isSome = true := hasK_iff.mpr h
end GP

namespace GP
open PySem PySem.Spec PyProof.Rows L2 G
theorem over_eq {h a : List Int} (hl : h.length = a.length) : ((List.range h.length).map fun k : Nat => (cutG h (some (k : Int)) none).sum - (cutG a (some (k : Int)) none).sum) = m_over h a :=
  List.map_congr_left fun k hk => by
    have := List.mem_range.mp hk
    rw [cutG_from h k (by omega), cutG_from a k (by omega)]
def m__law_over (h a : List Int) : List Int := m_over h a
def m_fits (h a : List Int) : Bool := ((m_over h a).map fun n => decide (0 ≤ n)).all fun b => b
def m_paper (h a : List Int) : Option Int := if decide (lmin (0 :: m_over h a) < 0) = true then some (((m_over h a).idxOf (lmin (0 :: m_over h a)) : Nat) : Int) else none
theorem lmin_neg (xs : List Int) : lmin (0 :: xs) = -lmax (0 :: xs.map fun n => -n) := by
  have h1 := lmin_mem (ns := 0 :: xs) (by simp)
  have h2 := lmax_mem (ns := 0 :: xs.map fun n => -n) (by simp)
  refine Int.le_antisymm ?_ ?_
  · rcases List.mem_cons.mp h2 with z | z
    · rw [z]; exact lmin_le (ns := 0 :: xs) 0 List.mem_cons_self
    · obtain ⟨n, hn, e⟩ := List.mem_map.mp z
      rw [← e, Int.neg_neg]; exact lmin_le (ns := 0 :: xs) n (List.mem_cons_of_mem _ hn)
  · have := lmax_le (ns := 0 :: xs.map fun n => -n) (-lmin (0 :: xs)) (by
      rcases List.mem_cons.mp h1 with z | z
      · rw [z]; exact List.mem_cons_self
      · exact List.mem_cons_of_mem _ (List.mem_map.mpr ⟨_, z, rfl⟩))
    omega
theorem worst_in {xs : List Int} (h : lmin (0 :: xs) < 0) : lmin (0 :: xs) ∈ xs := by
  have h1 := lmin_mem (ns := 0 :: xs) (by simp)
  rcases List.mem_cons.mp h1 with z | z
  · omega
  · exact z
/-! the inner loop of allotted -/
structure InP (L0 : List Int) (F0 : List (Int × Int × Int)) (n0 : Int) (a i : Nat) (need : Int) (left : List Int) (F : List (Int × Int × Int)) : Prop where
  len : left.length = L0.length
  nn : ∀ x ∈ left, 0 ≤ x
  ned : 0 ≤ need
  l : left.take (a + i) ++ pL need (left.drop (a + i)) = L0.take a ++ pL n0 (L0.drop a)
  f : F ++ mp (a : Int) (pE need (left.drop (a + i)) ((a + i : Nat) : Int)) = F0 ++ mp (a : Int) (pE n0 (L0.drop a) (a : Int))
  few : F.length ≤ F0.length + i
theorem inp_zero {L0 : List Int} {F0 : List (Int × Int × Int)} {n0 : Int} {a : Nat} (h0 : ∀ x ∈ L0, 0 ≤ x) (hn : 0 ≤ n0) : InP L0 F0 n0 a 0 n0 L0 F0 := ⟨rfl, h0, hn, rfl, rfl, Nat.le_refl _⟩
theorem set_at_ge {xs : List Int} {j : Nat} (h : j < xs.length) (v : Int) : setI xs (j : Int) v = xs.take j ++ v :: xs.drop (j + 1) := by
  unfold setI
  rw [if_neg (by omega), show ((j : Nat) : Int).toNat = j by omega, List.set_eq_take_append_cons_drop, if_pos h]
theorem inp_next {L0 left : List Int} {F0 F : List (Int × Int × Int)} {n0 need : Int} {a i : Nat} (I : InP L0 F0 n0 a i need left F) (hi : a + i < L0.length) (p : Int) (hp : p = min need (gI left ((a : Int) + (i : Int)))) :
    (0 < p → InP L0 F0 n0 a (i + 1) (need - p) (setI left ((a : Int) + (i : Int)) (gI left ((a : Int) + (i : Int)) - p)) (F ++ [((a : Int) + (i : Int), (a : Int), p)])) ∧ (¬ 0 < p → InP L0 F0 n0 a (i + 1) need left F) := by
  obtain ⟨j, hj⟩ : ∃ j : Nat, j = a + i := ⟨_, rfl⟩
  have ej : (a : Int) + (i : Int) = (j : Int) := by omega
  rw [ej] at hp ⊢
  have hl := I.len
  have hjl : j < left.length := by omega
  have hg : gI left (j : Int) = left[j] := by rw [gI_nat, getElem!_pos left j hjl]
  have h0 : 0 ≤ left[j] := I.nn _ (List.getElem_mem hjl)
  have hd : left.drop j = left[j] :: left.drop (j + 1) := List.drop_eq_getElem_cons hjl
  have Il := I.l
  have If := I.f
  rw [← hj, hd] at Il If
  have hn := I.ned
  rw [hg] at hp ⊢
  have Il' : left.take j ++ ((left[j] - p) :: pL (need - p) (left.drop (j + 1))) = L0.take a ++ pL n0 (L0.drop a) := by rw [hp]; exact Il
  have If' : F ++ mp (a : Int) ((if 0 < p then [((j : Int), p)] else []) ++ pE (need - p) (left.drop (j + 1)) ((j : Int) + 1)) = F0 ++ mp (a : Int) (pE n0 (L0.drop a) (a : Int)) := by rw [hp]; exact If
  refine ⟨fun q => ⟨?_, fun x hx => ?_, by omega, ?_, ?_, ?_⟩, fun q => ⟨hl, I.nn, hn, ?_, ?_, by have := I.few; omega⟩⟩
  · rw [setI_len]; exact hl
  · rw [set_at_ge hjl] at hx
    rcases List.mem_append.mp hx with z | z
    · exact I.nn x (List.mem_of_mem_take z)
    · rcases List.mem_cons.mp z with z | z
      · omega
      · exact I.nn x (List.mem_of_mem_drop z)
  · rw [show a + (i + 1) = j + 1 by omega, set_at_ge hjl]
    have lt : (left.take j).length = j := by rw [List.length_take]; omega
    have e1 : (left.take j ++ (left[j] - p) :: left.drop (j + 1)).take (j + 1) = left.take j ++ [left[j] - p] := by
      rw [List.take_append, lt, show j + 1 - j = 1 by omega, List.take_of_length_le (by omega)]; rfl
    have e2 : (left.take j ++ (left[j] - p) :: left.drop (j + 1)).drop (j + 1) = left.drop (j + 1) := by
      rw [List.drop_append, lt, show j + 1 - j = 1 by omega, List.drop_of_length_le (by omega)]; rfl
    rw [e1, e2, List.append_assoc]
    exact Il'
  · rw [show a + (i + 1) = j + 1 by omega, set_at_ge hjl]
    have lt : (left.take j).length = j := by rw [List.length_take]; omega
    have e2 : (left.take j ++ (left[j] - p) :: left.drop (j + 1)).drop (j + 1) = left.drop (j + 1) := by
      rw [List.drop_append, lt, show j + 1 - j = 1 by omega, List.drop_of_length_le (by omega)]; rfl
    rw [e2]
    rw [if_pos q] at If'
    rw [← If', List.append_assoc]
    rfl
  · rw [List.length_append]; have := I.few; simp; omega
  · have hp0 : p = 0 := by omega
    rw [hp0, Int.sub_zero, Int.sub_zero] at Il'
    rw [show a + (i + 1) = j + 1 by omega, ← Il']
    rw [List.take_succ_eq_append_getElem hjl, List.append_assoc]; rfl
  · have hp0 : p = 0 := by omega
    rw [hp0, Int.sub_zero, if_neg (by omega)] at If'
    rw [show a + (i + 1) = j + 1 by omega, ← If', show (((j + 1 : Nat) : Nat) : Int) = (j : Int) + 1 by omega]; rfl
theorem inp_end {asks L0 left : List Int} {F0 F : List (Int × Int × Int)} {need : Int} {a i : Nat} (I : InP L0 F0 (gI asks (a : Int)) a i need left F) (hi : L0.length ≤ a + i) : (left, F) = stp asks (L0, F0) (a : Int) := by
  have hl := I.len
  have Il := I.l
  have If := I.f
  rw [List.drop_of_length_le (by omega)] at Il If
  rw [List.take_of_length_le (by omega)] at Il
  unfold stp
  rw [show ((a : Nat) : Int).toNat = a by omega]
  have e1 : left = L0.take a ++ pL (gI asks (a : Int)) (L0.drop a) := by rw [← Il]; simp [pL]
  have e2 : F = F0 ++ mp (a : Int) (pE (gI asks (a : Int)) (L0.drop a) (a : Int)) := by rw [← If]; simp [pE, mp]
  rw [← e1, ← e2]
/-! is_given, row by row -/
def RowOk (n : Int) (r : Row) : Prop := (0 ≤ r.2.1 ∧ r.2.1 ≤ r.1 ∧ r.1 < n) ∧ ∃ l, r.2.2 = some l ∧ 1 ≤ l
abbrev prs (told : List Row) : List (Int × Int) := told.map fun r => (r.1, r.2.1)
theorem nd_of_counts {told : List (Int × Int)} (h : ∀ p ∈ told, told.countP (fun z => decide (z = p)) ≤ 1) : told.Nodup := by
  rw [List.nodup_iff_count]
  intro a
  by_cases q : a ∈ told
  · have := h a q
    have e : List.count a told = told.countP (fun z => decide (z = a)) := by
      rw [List.count_eq_countP]
      exact List.countP_congr fun x _ => by simp
    omega
  · rw [List.count_eq_zero_of_not_mem q]; omega
theorem nd_count {told : List (Int × Int)} (h : told.Nodup) (p : Int × Int) : told.countP (fun z => decide (z = p)) ≤ 1 := by
  have := (List.nodup_iff_count.mp h) p
  have e : List.count p told = told.countP (fun z => decide (z = p)) := by
    rw [List.count_eq_countP]
    exact List.countP_congr fun x _ => by simp
  omega
theorem nd_of_prefix {told : List (Int × Int)} (h : ∀ k (hk : k < told.length), told[k] ∉ told.take k) : told.Nodup := by
  rw [List.Nodup, List.pairwise_iff_getElem]
  intro i j hi hj hij e
  exact h j hj (by rw [← e]; exact List.mem_take_iff_getElem.mpr ⟨i, by omega, rfl⟩)
theorem nd_prefix {told : List (Int × Int)} (h : told.Nodup) (k : Nat) (hk : k < told.length) : told[k] ∉ told.take k := by
  rw [List.Nodup, List.pairwise_iff_getElem] at h
  intro z
  obtain ⟨i, hi, e⟩ := List.mem_take_iff_getElem.mp z
  exact h i k (by omega) hk (by omega) e
theorem num_V {v : Option Int} {l m : Int} : isNum (dV v) l m = true ↔ ∃ i, v = some i ∧ l ≤ i ∧ i ≤ m := by
  cases v with
  | none => exact ⟨fun h => (by cases h), fun ⟨_, h, _⟩ => (by cases h)⟩
  | some i => show (decide (l ≤ i) && decide (i ≤ m)) = true ↔ _; simp
open Classical in
theorem given_no {has asks : List Int} {told : List Row} (h : ¬ Given has asks told) : m_is_given has asks told = false := decide_eq_false h
open Classical in
theorem given_yes {has asks : List Int} {told : List Row} (h : Given has asks told) : m_is_given has asks told = true := decide_eq_true h
open Classical in
theorem given_iff {has asks : List Int} {told : List Row} : m_is_given has asks told = true ↔ Given has asks told := decide_eq_true_iff
noncomputable def m_judge (has asks : List Int) (told : List Row) (sort : Option Int) : Bool := m_is_given has asks told && (match sort with | none => decide (asks.sum - tot3 told = 0) | some k => decide (0 < asks.sum - tot3 told) && decide (asks.sum - tot3 told = -(gI (m_over has asks) k)))
noncomputable def m__law_is_given (has asks : List Int) (told : List Row) : Bool := m_is_given has asks told
theorem right_of {has asks : List Int} (hl : has.length = asks.length) (hh : ∀ x ∈ has, 0 ≤ x) {told : List Row} {sort : Option Int} (hs : ∀ k, sort = some k → 0 ≤ k ∧ k < (has.length : Int)) (h : m_judge has asks told sort = true) : asks.sum - tot3 told = m_lacking has asks := by
  unfold m_judge at h
  rw [Bool.and_eq_true] at h
  have G := given_iff.mp h.1
  have S := given_short hl hh G
  refine Int.le_antisymm ?_ S
  cases sort with
  | none =>
    have := of_decide_eq_true h.2
    rw [this]
    exact lmax_le (ns := 0 :: _) 0 List.mem_cons_self
  | some k =>
    have h2 := h.2
    dsimp only at h2
    rw [Bool.and_eq_true, decide_eq_true_eq, decide_eq_true_eq] at h2
    obtain ⟨k0, k1⟩ := hs k rfl
    rw [h2.2]
    refine lmax_le (ns := 0 :: (m_over has asks).map fun n => -n) _ (List.mem_cons_of_mem _ (List.mem_map.mpr ⟨_, gI_mem ?_, rfl⟩))
    rw [over_len]; omega
/-! rows that are drawn and changed -/
structure TV3 (told : List Row) : Prop where
  few : told.length ≤ 100
  bd : ∀ r ∈ told, ∀ l, r.2.2 = some l → l ≤ 100000
def tv3 (F : List (Int × Int × Int)) : List Row := F.map fun r => (r.1, r.2.1, some r.2.2)
theorem tv3_up (F : List (Int × Int × Int)) : dL (dT3 PyData.int PyData.int PyData.int) F = dL (dT3 PyData.int PyData.int dV) (tv3 F) := by
  show PyData.list _ = PyData.list _
  unfold tv3
  rw [List.map_map]; rfl
theorem tv3_tot (F : List (Int × Int × Int)) : tot3 (tv3 F) = gvn F := by
  unfold tot3 tv3 gvn
  rw [List.map_map]; rfl
theorem row_cond {n : Int} {r : Row} (hb : ∀ l, r.2.2 = some l → l ≤ 100000) : ((!isNum (.int r.1) 0 (n - 1)) || ((!isNum (.int r.2.1) 0 r.1) || !isNum (dV r.2.2) 1 1000000000)) = false ↔ RowOk n r := by
  rw [Bool.or_eq_false_iff, Bool.or_eq_false_iff, Bool.not_eq_false', Bool.not_eq_false', Bool.not_eq_false', num_V, isNum_int, isNum_int, Bool.and_eq_true, Bool.and_eq_true, decide_eq_true_eq, decide_eq_true_eq, decide_eq_true_eq, decide_eq_true_eq]
  constructor
  · rintro ⟨h1, h2, l, h3, h4⟩
    exact ⟨by omega, l, h3, h4.1⟩
  · rintro ⟨h1, l, h3, h4⟩
    exact ⟨by omega, by omega, l, h3, h4, by have := hb l h3; omega⟩
theorem row_yes {n : Int} {r : Row} (h : RowOk n r) (hb : ∀ l, r.2.2 = some l → l ≤ 100000) : ¬ ((!isNum (.int r.1) 0 (n - 1)) || ((!isNum (.int r.2.1) 0 r.1) || !isNum (dV r.2.2) 1 1000000000)) = true := by
  rw [(row_cond hb).mpr h]; exact Bool.false_ne_true
theorem row_ok {n : Int} {r : Row} (hb : ∀ l, r.2.2 = some l → l ≤ 100000) (h : ((!isNum (.int r.1) 0 (n - 1)) || ((!isNum (.int r.2.1) 0 r.1) || !isNum (dV r.2.2) 1 1000000000)) = false) : RowOk n r := (row_cond hb).mp h
/-! the law's own looks -/
def AmL (n : Int) (xs : List Int) : Prop := (xs.length : Int) = n ∧ ∀ x ∈ xs, 0 ≤ x ∧ x ≤ 7
theorem AmL.am {n : Int} {xs : List Int} (h : AmL n xs) (hn : n ≤ 40) : Am xs := ⟨by have := h.1; omega, fun x hx => by have := h.2 x hx; omega⟩
theorem law_cond1 {r : Row} : (false || (false || (r.2.2.isNone || decide (r.2.2.getD 0 < 1)))) = false ↔ ∃ l, r.2.2 = some l ∧ 1 ≤ l := by
  cases h : r.2.2 with
  | none => simp
  | some l => simp
theorem law_cond2 {n : Int} {r : Row} {told : List Row} {k : Nat} (hk : k ≤ told.length) : ((!(decide (0 ≤ r.2.1) && (decide (r.2.1 ≤ r.1) && decide (r.1 < n)))) || decide ((r.1, r.2.1) ∈ ((cutG told none (some (k : Int))).map fun r : Row => (r.1, r.2.1)))) = false ↔ (0 ≤ r.2.1 ∧ r.2.1 ≤ r.1 ∧ r.1 < n) ∧ (r.1, r.2.1) ∉ (prs told).take k := by
  rw [cutG_to told k hk, Bool.or_eq_false_iff, Bool.not_eq_false', Bool.and_eq_true, Bool.and_eq_true, decide_eq_true_eq, decide_eq_true_eq, decide_eq_true_eq, decide_eq_false_iff_not, prs, List.map_take]
structure GivK (n : Int) (told : List Row) (k : Nat) : Prop where
  row : ∀ r ∈ told.take k, RowOk n r
  nd : ∀ (j : Nat) (hj : j < (prs told).length), j < k → (prs told)[j] ∉ (prs told).take j
theorem givk_zero (n : Int) (told : List Row) : GivK n told 0 := ⟨fun r h => by simp at h, fun _ _ h => by omega⟩
theorem prs_at {told : List Row} {k : Nat} {r : Row} (h : told[k]? = some r) (hj : k < (prs told).length) : (prs told)[k] = (r.1, r.2.1) := by
  have := (List.getElem?_eq_some_iff.mp h).2
  unfold prs
  rw [List.getElem_map, this]
theorem givk_next {n : Int} {told : List Row} {k : Nat} {r : Row} (G : GivK n told k) (h : told[k]? = some r) (h1 : RowOk n r) (h2 : (r.1, r.2.1) ∉ (prs told).take k) : GivK n told (k + 1) := by
  refine ⟨fun x hx => ?_, fun j hj hk => ?_⟩
  · rw [take_succ_of h] at hx
    rcases List.mem_append.mp hx with z | z
    · exact G.row x z
    · rw [List.mem_singleton.mp z]; exact h1
  · by_cases q : j = k
    · subst q; rw [prs_at h hj]; exact h2
    · exact G.nd j hj (by omega)
theorem givk_no1 {has asks : List Int} {told : List Row} {r : Row} (hr : r ∈ told) (h : ¬ RowOk (has.length : Int) r) : ¬ Given has asks told := fun G => h (G.row r hr)
theorem givk_no2 {has asks : List Int} {told : List Row} {k : Nat} {r : Row} (h : told[k]? = some r) (h2 : (r.1, r.2.1) ∈ (prs told).take k) : ¬ Given has asks told := fun G => by
  have hk : k < (prs told).length := by unfold prs; rw [List.length_map]; exact (List.getElem?_eq_some_iff.mp h).1
  exact nd_prefix G.nd k hk (by rw [prs_at h hk]; exact h2)
/-! rows drawn -/
def DrB (i : Nat) (D : D3) : Prop := (∀ e ∈ D, e.2 ≤ (i : Int)) ∧ D.length ≤ i
theorem drb_zero : DrB 0 [] := ⟨(fun _ h => by cases h), Nat.le_refl _⟩
theorem rv_mem {κ : Type} [DecidableEq κ] {D : List (κ × Int)} {k : κ} {v : Int} : ∀ e ∈ rv D k v, e ∈ D ∨ e.2 = v := by
  intro e he
  unfold rv at he
  obtain ⟨q, hq, rfl⟩ := List.mem_map.mp he
  split
  · exact .inr rfl
  · exact .inl hq
theorem pv_mem {κ : Type} [DecidableEq κ] : ∀ {D : List (κ × Int)} {k : κ} {v : Int}, ∀ e ∈ pv D k v, e ∈ D ∨ e.2 = v
  | [], k, v => fun e he => by
    have : e ∈ [(k, v)] := he
    rw [List.mem_singleton.mp this]; exact .inr rfl
  | p :: D, k, v => fun e he => by
    have he' : e ∈ (if p.1 = k then (k, v) :: rv D k v else p :: pv D k v) := he
    split at he'
    · rcases List.mem_cons.mp he' with z | z
      · rw [z]; exact .inr rfl
      · rcases rv_mem e z with y | y
        · exact .inl (List.mem_cons_of_mem _ y)
        · exact .inr y
    · rcases List.mem_cons.mp he' with z | z
      · rw [z]; exact .inl List.mem_cons_self
      · rcases pv_mem e z with y | y
        · exact .inl (List.mem_cons_of_mem _ y)
        · exact .inr y
theorem drb_next {i : Nat} {D : D3} (h : DrB i D) (k : Int × Int) : DrB (i + 1) (pv D k ((gv D k).getD 0 + 1)) := by
  refine ⟨fun e he => ?_, ?_⟩
  · rcases pv_mem e he with z | z
    · have := h.1 e z; omega
    · rw [z]
      cases q : gv D k with
      | none => simp; omega
      | some v => have := h.1 _ (gv_mem q); simp at *; omega
  · have := pv_len_le D k ((gv D k).getD 0 + 1); have := h.2; omega
theorem drb_skip {i : Nat} {D : D3} (h : DrB i D) : DrB (i + 1) D := ⟨fun e he => by have := h.1 e he; omega, by have := h.2; omega⟩
theorem drb_end {i : Nat} {D : D3} (h : DrB i D) : ∀ r ∈ srtD (dT3 PyData.int PyData.int PyData.int) ((D.map (·.1)).map fun p => (p.1, p.2, gD D p)), r.2.2 ≤ (i : Int) := fun r hr => by
  rw [srtD_mem] at hr
  obtain ⟨p, hp, rfl⟩ := List.mem_map.mp hr
  obtain ⟨v, hv⟩ := gv_some hp
  dsimp only
  rw [gD_some hv]
  exact h.1 _ (gv_mem hv)
def TVB (n : Nat) (b : Int) (told : List Row) : Prop := told.length ≤ n ∧ ∀ r ∈ told, ∀ l, r.2.2 = some l → l ≤ b
theorem TVB.tv3 {n : Nat} {b : Int} {told : List Row} (h : TVB n b told) (hn : n ≤ 100) (hb : b ≤ 100000) : TV3 told := ⟨by have := h.1; omega, fun r hr l hl => by have := h.2 r hr l hl; omega⟩
abbrev Chg (told z : List Row) : Prop := ∀ n b, 3 ≤ b → TVB n b told → TVB (n + 1) (b + 1) z
theorem chg_add {told : List Row} {x y l : Int} (h : l ≤ 3) : Chg told (told ++ [(x, y, some l)]) := fun n b hb T => by
  refine ⟨by rw [List.length_append]; have := T.1; simp; omega, fun r hr m hm => ?_⟩
  rcases List.mem_append.mp hr with z | z
  · have := T.2 r z m hm; omega
  · rw [List.mem_singleton.mp z] at hm
    cases hm; omega
theorem chg_dup {told : List Row} {r0 : Row} (h : r0 ∈ told) : Chg told (told ++ [r0]) := fun n b hb T => by
  refine ⟨by rw [List.length_append]; have := T.1; simp; omega, fun r hr m hm => ?_⟩
  rcases List.mem_append.mp hr with z | z
  · have := T.2 r z m hm; omega
  · rw [List.mem_singleton.mp z] at hm
    have := T.2 r0 h m hm; omega
theorem chg_erase {told : List Row} (k : Nat) : Chg told (told.eraseIdx k) := fun n b hb T => ⟨by have := T.1; have := List.length_eraseIdx_le told k; omega, fun r hr m hm => by
  have := T.2 r (List.mem_of_mem_eraseIdx hr) m hm; omega⟩
theorem chg_set {told : List Row} {i : Int} {r0 : Row} (h : ∀ n b, 3 ≤ b → TVB n b told → ∀ l, r0.2.2 = some l → l ≤ b + 1) : Chg told (setI told i r0) := fun n b hb T => by
  refine ⟨by rw [setI_len]; have := T.1; omega, fun r hr m hm => ?_⟩
  have hr' : r ∈ told ∨ r = r0 := by
    unfold setI at hr
    split at hr
    · exact (List.mem_or_eq_of_mem_set hr)
    · exact (List.mem_or_eq_of_mem_set hr)
  rcases hr' with z | z
  · have := T.2 r z m hm; omega
  · rw [z] at hm; exact h n b hb T m hm
theorem judge_no {sort : Option Int} {n : Nat} {rows : List Int} (ps : ∀ k, sort = some k → 0 ≤ k ∧ k < (n : Int)) (hl : rows.length = n) : ((!sort.isNone) && !isNum (.int (sort.getD 0)) 0 ((rows.length : Int) - 1)) = false := by
  cases sort with
  | none => rfl
  | some k =>
    have := ps k rfl
    show (true && !(decide (0 ≤ k) && decide (k ≤ (rows.length : Int) - 1))) = false
    rw [decide_eq_true (by omega), decide_eq_true (by omega)]; rfl
theorem wide78 {w : Int} (h : w ∈ ([3, 8] : List Int)) : w = 3 ∨ w = 8 := by simpa using h
theorem one78 {w : Int} (h : w ∈ ([1, -1] : List Int)) : w ≤ 1 := by
  have : w = 1 ∨ w = -1 := by simpa using h
  omega
theorem amt78 {w : Int} (q : Pool) (h0 : 0 < w) (h1 : w ≤ 8) : 0 ≤ gI ([0, (drawP q w).1, (drawP (drawP q w).2 w).1] : List Int) (drawP (drawP (drawP q w).2 w).2 ((([0, (drawP q w).1, (drawP (drawP q w).2 w).1] : List Int).length : Nat) : Int)).1 ∧ gI ([0, (drawP q w).1, (drawP (drawP q w).2 w).1] : List Int) (drawP (drawP (drawP q w).2 w).2 ((([0, (drawP q w).1, (drawP (drawP q w).2 w).1] : List Int).length : Nat) : Int)).1 ≤ 7 := by
  have b1 := draw_bd q h0
  have b2 := draw_bd (drawP q w).2 h0
  have b3 := draw_bd (drawP (drawP q w).2 w).2 (n := 3) (by decide)
  have m := gI_mem (xs := ([0, (drawP q w).1, (drawP (drawP q w).2 w).1] : List Int)) (i := (drawP (drawP (drawP q w).2 w).2 3).1) (by simp; omega)
  simp only [List.mem_cons, List.not_mem_nil, or_false] at m
  show 0 ≤ gI _ (drawP (drawP (drawP q w).2 w).2 3).1 ∧ gI _ (drawP (drawP (drawP q w).2 w).2 3).1 ≤ 7
  rcases m with e | e | e <;> omega
theorem pairs_next {n i : Nat} {pairs : List (Int × Int)} (h : ∀ p ∈ pairs, (0 ≤ p.1 ∧ p.1 < (n : Int)) ∧ 0 ≤ p.2 ∧ p.2 < (n : Int)) (hl : pairs.length ≤ i * 41) (hi : i < n) (hn : n ≤ 40) (c : Nat → Bool) : (∀ p ∈ pairs ++ ((List.range ((i : Int) + 1).toNat).filter c).map (fun a : Nat => ((i : Int), (a : Int))), (0 ≤ p.1 ∧ p.1 < (n : Int)) ∧ 0 ≤ p.2 ∧ p.2 < (n : Int)) ∧ (pairs ++ ((List.range ((i : Int) + 1).toNat).filter c).map (fun a : Nat => ((i : Int), (a : Int)))).length ≤ (i + 1) * 41 := by
  refine ⟨fun p hp => ?_, ?_⟩
  · rcases List.mem_append.mp hp with z | z
    · exact h p z
    · obtain ⟨a, ha, rfl⟩ := List.mem_map.mp z
      have := List.mem_range.mp (List.mem_filter.mp ha).1
      dsimp only; omega
  · rw [List.length_append, List.length_map]
    have := List.length_filter_le c (List.range ((i : Int) + 1).toNat)
    rw [List.length_range] at this
    omega
theorem chg_plus {told : List Row} {r0 : Row} {x y w : Int} (h : r0 ∈ told) (hw : w ≤ 1) : ∀ n b, 3 ≤ b → TVB n b told → ∀ l, (x, y, some (vI r0.2.2 + w)).2.2 = some l → l ≤ b + 1 := fun n b hb T l hl => by
  have e : vI r0.2.2 + w = l := Option.some.inj hl
  cases q : r0.2.2 with
  | none => rw [q] at e; have : (1 : Int) + w = l := e; omega
  | some m => rw [q] at e; have := T.2 r0 h m q; have : m + w = l := e; omega
theorem chg_three {told : List Row} {r0 z : Row} {x y v : Int} (h : r0 ∈ told) (hz : z ∈ ([(x, y, some v), (r0.2.1, r0.1, r0.2.2), (r0.1, r0.2.1, none)] : List Row)) (hv : v ≤ 3) : ∀ n b, 3 ≤ b → TVB n b told → ∀ l, z.2.2 = some l → l ≤ b + 1 := fun n b hb T l hl => by
  simp only [List.mem_cons, List.not_mem_nil, or_false] at hz
  rcases hz with rfl | rfl | rfl
  · cases hl; omega
  · have := T.2 r0 h l hl; omega
  · cases hl
theorem t3_inj {α β γ : Type} {f : α → PyData} {g : β → PyData} {h : γ → PyData} (hf : ∀ a b, f a = f b → a = b) (hg : ∀ a b, g a = g b → a = b) (hh : ∀ a b, h a = h b → a = b) (x y : α × β × γ) (e : dT3 f g h x = dT3 f g h y) : x = y := by
  obtain ⟨a, b, c⟩ := x
  obtain ⟨a', b', c'⟩ := y
  have h1 : f a = f a' ∧ g b = g b' ∧ h c = h c' := by simpa [dT3] using e
  rw [hf _ _ h1.1, hg _ _ h1.2.1, hh _ _ h1.2.2]
theorem pE_len : ∀ (ls : List Int) (n s : Int), (pE n ls s).length ≤ ls.length
  | [], _, _ => Nat.le_refl _
  | l :: ls, n, s => by
    show ((if 0 < min n l then [(s, min n l)] else []) ++ pE (n - min n l) ls (s + 1)).length ≤ ls.length + 1
    rw [List.length_append]
    have := pE_len ls (n - min n l) (s + 1)
    split <;> simp <;> omega
theorem ll_few {L0 left : List Int} {D0 D : D3} {a : Nat} {t : Int} (h : LL L0 D0 a t left D) : D.length ≤ D0.length + L0.length := by
  rw [h.d, List.length_append]
  unfold dE
  rw [List.length_map]
  have := pE_len (L0.drop a) t (a : Int)
  rw [List.length_drop] at this
  omega
end GP

namespace GP
open PySem PySem.Spec PyProof.Rows L2 G
/-! the law -/
theorem due_rows {has asks : List Int} (hl : has.length = asks.length) (hh : ∀ x ∈ has, 0 ≤ x) (ha : ∀ x ∈ asks, 0 ≤ x) : AlS has asks asks.length (alS has asks asks.length) := als_is hl hh ha _ (Nat.le_refl _)
theorem pos_le : ∀ {F : List (Int × Int × Int)}, (∀ r ∈ F, 0 < r.2.2) → ∀ r ∈ F, r.2.2 ≤ gvn F
  | [], _, _, h => by cases h
  | a :: F, h, r, hr => by
    have h1 := h a List.mem_cons_self
    have h2 := fun y hy => h y (List.mem_cons_of_mem _ hy)
    have h3 : 0 ≤ gvn F := by
      have : ∀ F : List (Int × Int × Int), (∀ r ∈ F, 0 < r.2.2) → 0 ≤ gvn F := fun F => by
        induction F with
        | nil => intro _; exact Int.le_refl _
        | cons b F ih => intro k; have := k b List.mem_cons_self; have := ih (fun y hy => k y (List.mem_cons_of_mem _ hy)); unfold gvn at *; rw [List.map_cons, List.sum_cons]; omega
      exact this F h2
    show _ ≤ (((a :: F).map fun r => r.2.2).sum)
    rw [List.map_cons, List.sum_cons]
    show _ ≤ a.2.2 + gvn F
    rcases List.mem_cons.mp hr with z | z
    · rw [z]; omega
    · have := pos_le h2 r z; omega
theorem sum_filter_key (F : List (Int × Int × Int)) (p : Row → Bool) : sumBy p (tv3 F) = ((F.filter fun r => p (r.1, r.2.1, some r.2.2)).map fun r => r.2.2).sum := by
  unfold sumBy tv3
  rw [List.filter_map, List.map_map]; rfl
theorem sumBy_app (p : Row → Bool) (A B : List Row) : sumBy p (A ++ B) = sumBy p A + sumBy p B := by
  unfold sumBy
  rw [List.filter_append, List.map_append, List.sum_append]
theorem tv3_app (A B : List (Int × Int × Int)) : tv3 (A ++ B) = tv3 A ++ tv3 B := List.map_append

theorem sumBy_none {p : Row → Bool} {A : List Row} (h : ∀ r ∈ A, p r = false) : sumBy p A = 0 := by
  unfold sumBy
  rw [List.filter_eq_nil_iff.mpr fun r hr => by rw [h r hr]; exact Bool.false_ne_true]; rfl
theorem sumBy_all {p : Row → Bool} {A : List Row} (h : ∀ r ∈ A, p r = true) : sumBy p A = tot3 A := by
  unfold sumBy tot3
  rw [List.filter_eq_self.mpr h]
theorem mp_app (a : Int) (A B : List (Int × Int)) : mp a (A ++ B) = mp a A ++ mp a B := List.map_append
theorem mp_mem {a : Int} {E : List (Int × Int)} {r : Row} (h : r ∈ tv3 (mp a E)) : ∃ e ∈ E, r = (e.1, a, some e.2) := by
  obtain ⟨x, hx, rfl⟩ := List.mem_map.mp h
  obtain ⟨e, he, rfl⟩ := List.mem_map.mp hx
  exact ⟨e, he, rfl⟩
theorem gI_cons (l : Int) (ls : List Int) (i : Nat) : gI (l :: ls) ((i + 1 : Nat) : Int) = gI ls (i : Int) := by
  rw [gI_nat, gI_nat]; simp [List.getElem!_eq_getElem?_getD]
theorem pE_at : ∀ (ls : List Int) (n s : Int) (a : Int) (i : Nat), 0 ≤ n → (∀ x ∈ ls, 0 ≤ x) → i < ls.length → sumBy (fun r => decide (r.1 = s + (i : Int))) (tv3 (mp a (pE n ls s))) = gI ls (i : Int) - gI (pL n ls) (i : Int)
  | [], _, _, _, _, _, _, h => by simp at h
  | l :: ls, n, s, a, i, hn, hx, h => by
    have h1 := hx l List.mem_cons_self
    have h2 := fun y hy => hx y (List.mem_cons_of_mem _ hy)
    show sumBy _ (tv3 (mp a ((if 0 < min n l then [(s, min n l)] else []) ++ pE (n - min n l) ls (s + 1)))) = gI (l :: ls) (i : Int) - gI ((l - min n l) :: pL (n - min n l) ls) (i : Int)
    rw [mp_app, tv3_app, sumBy_app]
    cases i with
    | zero =>
      have h0 : sumBy (fun r => decide (r.1 = s + ((0 : Nat) : Int))) (tv3 (mp a (pE (n - min n l) ls (s + 1)))) = 0 := sumBy_none fun r hr => by
        obtain ⟨e, he, rfl⟩ := mp_mem hr
        have := (pE_key _ _ _ e he).1
        exact decide_eq_false (by dsimp only; omega)
      rw [h0, show gI (l :: ls) ((0 : Nat) : Int) = l from rfl, show gI ((l - min n l) :: pL (n - min n l) ls) ((0 : Nat) : Int) = l - min n l from rfl]
      by_cases q : 0 < min n l
      · rw [if_pos q, sumBy_all fun r hr => by
          obtain ⟨e, he, rfl⟩ := mp_mem hr
          rw [List.mem_singleton.mp he]
          exact decide_eq_true (by dsimp only; omega)]
        show (min n l + 0) + 0 = _
        omega
      · rw [if_neg q]
        show (0 : Int) + 0 = _
        omega
    | succ i =>
      have ih := pE_at ls (n - min n l) (s + 1) a i (by omega) h2 (by simpa using h)
      have h0 : sumBy (fun r => decide (r.1 = s + ((i + 1 : Nat) : Int))) (tv3 (mp a (if 0 < min n l then [(s, min n l)] else []))) = 0 := sumBy_none fun r hr => by
        obtain ⟨e, he, rfl⟩ := mp_mem hr
        split at he
        · rw [List.mem_singleton.mp he]
          exact decide_eq_false (by dsimp only; omega)
        · cases he
      rw [h0, gI_cons, gI_cons, ← ih, show s + ((i + 1 : Nat) : Int) = s + 1 + (i : Int) by omega]
      omega
structure Tak (has asks : List Int) (st : List Int × List (Int × Int × Int)) : Prop where
  s : ∀ n : Nat, n < has.length → gI st.1 (n : Int) + sumBy (fun r => decide (r.1 = (n : Int))) (tv3 st.2) = gI has (n : Int)
  a : ∀ n : Nat, n < asks.length → sumBy (fun r => decide (r.2.1 = (n : Int))) (tv3 st.2) ≤ gI asks (n : Int)
theorem gI_app_l {A B : List Int} {n : Nat} (h : n < A.length) : gI (A ++ B) (n : Int) = gI A (n : Int) := by
  rw [gI_nat, gI_nat, List.getElem!_eq_getElem?_getD, List.getElem!_eq_getElem?_getD, List.getElem?_append_left h]
theorem gI_app_r {A B : List Int} {n i : Nat} (h : n = A.length + i) : gI (A ++ B) (n : Int) = gI B (i : Int) := by
  rw [gI_nat, gI_nat, List.getElem!_eq_getElem?_getD, List.getElem!_eq_getElem?_getD, List.getElem?_append_right (by omega), show n - A.length = i by omega]
theorem tak_is {has asks : List Int} (hl : has.length = asks.length) (hh : ∀ x ∈ has, 0 ≤ x) (ha : ∀ x ∈ asks, 0 ≤ x) : ∀ k, k ≤ asks.length → Tak has asks (alS has asks k)
  | 0, _ => ⟨fun n hn => by rw [alS_zero]; show gI has (n : Int) + 0 = _; omega, fun n hn => by rw [alS_zero]; show (0 : Int) ≤ _; exact ha _ (gI_mem (by omega))⟩
  | k + 1, h => by
    have T := tak_is hl hh ha k (by omega)
    have J := als_is hl hh ha k (by omega)
    rw [alS_succ has asks (by omega)]
    obtain ⟨a, hadef⟩ : ∃ a : Nat, a = asks.length - 1 - k := ⟨_, rfl⟩
    have e0 : ((asks.length : Int) - 1 - (k : Int)) = (a : Int) := by omega
    rw [e0]
    generalize alS has asks k = st at T J
    have g0 : 0 ≤ gI asks (a : Int) := ha _ (gI_mem (by omega))
    have ll := J.len
    have hnn := fun x hx => J.nn x (List.mem_of_mem_drop (i := a) hx)
    unfold stp
    rw [show ((a : Nat) : Int).toNat = a by omega]
    have lt : (st.1.take a).length = a := by rw [List.length_take]; omega
    refine ⟨fun n hn => ?_, fun n hn => ?_⟩
    · dsimp only
      rw [tv3_app, sumBy_app]
      have T1 := T.s n hn
      by_cases q : n < a
      · rw [gI_app_l (by omega)]
        have e1 : gI (st.1.take a) (n : Int) = gI st.1 (n : Int) := by
          rw [gI_nat, gI_nat, List.getElem!_eq_getElem?_getD, List.getElem!_eq_getElem?_getD, List.getElem?_take, if_pos q]
        have e2 : sumBy (fun r => decide (r.1 = (n : Int))) (tv3 (mp (a : Int) (pE (gI asks (a : Int)) (st.1.drop a) (a : Int)))) = 0 := sumBy_none fun r hr => by
          obtain ⟨e, he, rfl⟩ := mp_mem hr
          have := (pE_key _ _ _ e he).1
          exact decide_eq_false (by dsimp only; omega)
        rw [e1, e2]; omega
      · obtain ⟨i, hi⟩ : ∃ i, n = a + i := ⟨n - a, by omega⟩
        rw [gI_app_r (i := i) (by omega)]
        have e1 : gI st.1 (n : Int) = gI (st.1.drop a) (i : Int) := by
          rw [gI_nat, gI_nat, List.getElem!_eq_getElem?_getD, List.getElem!_eq_getElem?_getD, List.getElem?_drop, hi]
        have e2 := pE_at (st.1.drop a) (gI asks (a : Int)) (a : Int) (a : Int) i g0 hnn (by rw [List.length_drop]; omega)
        rw [show (a : Int) + (i : Int) = (n : Int) by omega] at e2
        rw [e2]; omega
    · dsimp only
      rw [tv3_app, sumBy_app]
      have T2 := T.a n hn
      by_cases q : n = a
      · subst q
        have e1 : sumBy (fun r => decide (r.2.1 = (n : Int))) (tv3 st.2) = 0 := sumBy_none fun r hr => by
          obtain ⟨x, hx, rfl⟩ := List.mem_map.mp hr
          have := (J.key x hx).1
          exact decide_eq_false (by dsimp only; omega)
        have e2 : sumBy (fun r => decide (r.2.1 = (n : Int))) (tv3 (mp (n : Int) (pE (gI asks (n : Int)) (st.1.drop n) (n : Int)))) = (st.1.drop n).sum - (pL (gI asks (n : Int)) (st.1.drop n)).sum := by
          rw [sumBy_all fun r hr => by
            obtain ⟨e, he, rfl⟩ := mp_mem hr
            exact decide_eq_true rfl, tv3_tot]
          have := pE_sum (st.1.drop n) (gI asks (n : Int)) (n : Int) g0 hnn
          unfold gvn mp
          rw [List.map_map]
          exact this
        have e3 := pL_sum (st.1.drop n) (gI asks (n : Int)) g0 hnn
        rw [e1, e2, e3]; omega
      · have e2 : sumBy (fun r => decide (r.2.1 = (n : Int))) (tv3 (mp (a : Int) (pE (gI asks (a : Int)) (st.1.drop a) (a : Int)))) = 0 := sumBy_none fun r hr => by
          obtain ⟨e, he, rfl⟩ := mp_mem hr
          exact decide_eq_false (by dsimp only; omega)
        rw [e2]; omega
theorem sumBy_perm {p : Row → Bool} {A B : List Row} (h : A.Perm B) : sumBy p A = sumBy p B := perm_sum ((h.filter p).map _)
theorem due_well {has asks : List Int} (hl : has.length = asks.length) (hh : ∀ x ∈ has, 0 ≤ x) (ha : ∀ x ∈ asks, 0 ≤ x) : Given has asks (tv3 (m_allotted has asks)) := by
  have J := als_is hl hh ha asks.length (Nat.le_refl _)
  have T := tak_is hl hh ha asks.length (Nat.le_refl _)
  have pm : (tv3 (m_allotted has asks)).Perm (tv3 (alS has asks asks.length).2) := (srtD_perm _ _).map _
  refine ⟨fun r hr => ?_, ?_, fun k hk => ?_, fun k hk => ?_⟩
  · obtain ⟨x, hx, rfl⟩ := List.mem_map.mp (pm.mem_iff.mp hr)
    have := J.key x hx
    exact ⟨by dsimp only; omega, x.2.2, rfl, by omega⟩
  · have := (pm.map fun r : Row => (r.1, r.2.1)).nodup_iff.mpr (by unfold tv3; rw [List.map_map]; exact J.nd)
    exact this
  · rw [sumBy_perm pm]
    have := T.s k hk
    have h0 : 0 ≤ gI (alS has asks asks.length).1 (k : Int) := J.nn _ (gI_mem (by have := J.len; omega))
    omega
  · rw [sumBy_perm pm]; exact T.a k (by omega)
theorem asks_le {n : Int} : ∀ {xs : List Int}, (∀ x ∈ xs, 0 ≤ x ∧ x ≤ 7) → xs.sum ≤ 7 * (xs.length : Int)
  | [], _ => by simp
  | x :: xs, h => by
    have h1 := h x List.mem_cons_self
    have := asks_le (n := n) (xs := xs) fun y hy => h y (List.mem_cons_of_mem _ hy)
    rw [List.sum_cons, List.length_cons]; omega
theorem due_bd {has asks : List Int} {n : Int} (hl : has.length = asks.length) (hh : ∀ x ∈ has, 0 ≤ x) (hA : AmL n asks) (hn : n ≤ 6) : (m_allotted has asks).length ≤ 36 ∧ ∀ r ∈ m_allotted has asks, r.2.2 ≤ 42 := by
  have ha : ∀ x ∈ asks, 0 ≤ x := fun x hx => (hA.2 x hx).1
  have J := als_is hl hh ha asks.length (Nat.le_refl _)
  have hl2 := hA.1
  refine ⟨?_, fun r hr => ?_⟩
  · unfold m_allotted
    rw [srtD_len]
    have h1 : asks.length * has.length ≤ 6 * 6 := Nat.mul_le_mul (by omega) (by omega)
    have := J.few
    omega
  · have hr2 := (srtD_mem (f := dT3 PyData.int PyData.int PyData.int)).mp hr
    have h1 := pos_le (fun r hr => (J.key r hr).2.2) r hr2
    have h2 := allotted_sum hl hh ha
    have e : gvn (m_allotted has asks) = gvn (alS has asks asks.length).2 := perm_sum ((srtD_perm _ _).map _)
    have h3 := asks_le (n := 0) hA.2
    have h4 : 0 ≤ m_lacking has asks := lmax_le (ns := 0 :: _) 0 List.mem_cons_self
    omega
theorem fits_is {has asks : List Int} {l : Int} (h : m_lacking has asks = l) : m_fits has asks = decide (l = 0) := by
  unfold m_fits
  subst h
  rw [Bool.eq_iff_iff, List.all_map, List.all_eq_true, decide_eq_true_eq]
  have h2 := fun x hx => lmax_le (ns := 0 :: (m_over has asks).map fun n => -n) x hx
  have h1 := lmax_mem (ns := 0 :: (m_over has asks).map fun n => -n) (by simp)
  constructor
  · intro k
    rcases List.mem_cons.mp h1 with z | z
    · exact z
    · obtain ⟨n, hn, e⟩ := List.mem_map.mp z
      have a := of_decide_eq_true (k n hn)
      have b := h2 0 List.mem_cons_self
      unfold m_lacking
      omega
  · intro k n hn
    have := h2 (-n) (List.mem_cons_of_mem _ (List.mem_map.mpr ⟨n, hn, rfl⟩))
    unfold m_lacking at k
    exact decide_eq_true (by omega)
theorem lmin_is {has asks : List Int} {l : Int} (h : m_lacking has asks = l) : lmin (0 :: m_over has asks) = -l := by
  rw [← h, lmin_neg]; rfl
theorem worst_at {rows : List Int} {l : Int} {n : Nat} (hn : n = rows.length) (hm : -l ∈ rows) : ∃ t, ((List.range n).filter fun a : Nat => decide (gI rows (a : Int) = 0 - l)).map (fun a : Nat => (a : Int)) = ((rows.idxOf (-l) : Nat) : Int) :: t := by
  have h1 := idx_at hm
  have h2 : rows.idxOf (-l) < n := by rw [hn]; exact (List.getElem?_eq_some_iff.mp h1).1
  have e : (List.range n).find? (fun a : Nat => decide (gI rows (a : Int) = 0 - l)) = some (rows.idxOf (-l)) := by
    rw [List.find?_range_eq_some]
    refine ⟨?_, by simpa using h2, fun j hj => ?_⟩
    · have : gI rows ((rows.idxOf (-l) : Nat) : Int) = -l := by rw [gI_nat, List.getElem!_eq_getElem?_getD, h1]; rfl
      rw [this]; exact decide_eq_true (by omega)
    · have hj2 : j < rows.length := by omega
      have h3 := idx_no rows (-l) j hj (rows[j]) (List.getElem?_eq_getElem hj2)
      have : gI rows (j : Int) = rows[j] := by rw [gI_nat, getElem!_pos rows j hj2]
      rw [this]
      simp
      omega
  rw [← List.head?_filter] at e
  cases hf : (List.range n).filter (fun a : Nat => decide (gI rows (a : Int) = 0 - l)) with
  | nil => rw [hf] at e; cases e
  | cons x t =>
    rw [hf] at e
    cases e
    exact ⟨t.map _, rfl⟩
theorem lack_in {has asks rows : List Int} {l : Int} (hK : m_lacking has asks = l) (hR : m_over has asks = rows) (hp : 0 < l) : -l ∈ rows := by
  have h := lmin_is hK
  have h1 := worst_in (xs := m_over has asks) (by omega)
  rw [h, hR] at h1; exact h1
theorem worst_some {has asks rows worst : List Int} {l : Int} {n : Nat} (hK : m_lacking has asks = l) (hR : m_over has asks = rows) (hn : n = has.length) (hp : 0 < l) (hw : ((List.range n).filter fun a : Nat => decide (gI rows (a : Int) = 0 - l)).map (fun a : Nat => (a : Int)) = worst) : 0 < worst.length := by
  obtain ⟨t, ht⟩ := worst_at (rows := rows) (l := l) (n := n) (by rw [← hR, over_len]; exact hn) (lack_in hK hR hp)
  rw [← hw, ht]; simp
theorem paper_is {has asks rows worst : List Int} {l : Int} {n : Nat} (hK : m_lacking has asks = l) (hR : m_over has asks = rows) (hn : n = has.length) (hw : ((List.range n).filter fun a : Nat => decide (gI rows (a : Int) = 0 - l)).map (fun a : Nat => (a : Int)) = worst) : m_paper has asks = if decide (0 < l) = true then some (gI worst 0) else none := by
  unfold m_paper
  rw [lmin_is hK]
  by_cases q : 0 < l
  · rw [if_pos (decide_eq_true (by omega)), if_pos (decide_eq_true q), hR]
    obtain ⟨t, ht⟩ := worst_at (rows := rows) (l := l) (n := n) (by rw [← hR, over_len]; exact hn) (lack_in hK hR q)
    rw [← hw, ht]; rfl
  · rw [if_neg (by simpa using (show ¬ (-l < 0) by omega)), if_neg (by simpa using q)]
theorem paper_bd {has asks : List Int} (hl : has.length = asks.length) : ∀ k, m_paper has asks = some k → 0 ≤ k ∧ k < (has.length : Int) := fun k hk => by
  unfold m_paper at hk
  split at hk
  · rename_i q
    have h1 := idx_at (worst_in (of_decide_eq_true q))
    have h2 := (List.getElem?_eq_some_iff.mp h1).1
    rw [over_len] at h2
    cases hk
    omega
  · cases hk
theorem told_bd {due told : List (Int × Int × Int)} (h : told = due ∨ (told.length ≤ 12 ∧ ∀ r ∈ told, r.2.2 ≤ 12)) (hb : due.length ≤ 36 ∧ ∀ r ∈ due, r.2.2 ≤ 42) : TVB 90 1000 (tv3 told) := by
  refine ⟨?_, fun r hr l hl => ?_⟩
  · unfold tv3
    rw [List.length_map]
    rcases h with rfl | h <;> omega
  · obtain ⟨x, hx, rfl⟩ := List.mem_map.mp hr
    have e : x.2.2 = l := Option.some.inj hl
    rcases h with rfl | h
    · have := hb.2 x hx; omega
    · have := h.2 x hx; omega
theorem pk78 {v : Int} (h : v ∈ ([0, 0, 1, 2] : List Int)) : 0 ≤ v ∧ v ≤ 2 := by
  simp only [List.mem_cons, List.not_mem_nil, or_false] at h
  omega
theorem sort_in {sort : Option Int} {n : Int} {has : List Int} (h : sort ∈ ([none] ++ ((List.range n.toNat).map fun i : Nat => (i : Int)).map some : List (Option Int))) (hn : (has.length : Int) = n) : ∀ k, sort = some k → 0 ≤ k ∧ k < (has.length : Int) := fun k hk => by
  subst hk
  rcases List.mem_append.mp h with z | z
  · simp at z
  · obtain ⟨x, hx, e⟩ := List.mem_map.mp z
    cases e
    obtain ⟨i, hi, rfl⟩ := List.mem_map.mp hx
    have := List.mem_range.mp hi
    omega
theorem judge_right {has asks : List Int} {told : List Row} {sort : Option Int} : m_judge has asks told sort = (m_is_given has asks told && (if sort.isNone = true then decide (asks.sum - (((told.map fun r : Row => r.2.2).map vI).sum) = 0) else (decide (0 < asks.sum - (((told.map fun r : Row => r.2.2).map vI).sum)) && decide (asks.sum - (((told.map fun r : Row => r.2.2).map vI).sum) = 0 - gI (m_over has asks) (sort.getD 0))))) := by
  have e : ((told.map fun r : Row => r.2.2).map vI).sum = tot3 told := by unfold tot3; rw [List.map_map]; rfl
  rw [e]
  unfold m_judge
  cases sort with
  | none => rfl
  | some k =>
    show _ = (_ && (if false = true then _ else _))
    rw [if_neg Bool.false_ne_true, show (0 : Int) - gI (m_over has asks) ((some k).getD 0) = -gI (m_over has asks) k by show (0 : Int) - gI (m_over has asks) k = _; omega]
theorem last_no {has asks : List Int} {told : List Row} {sort : Option Int} (hl : has.length = asks.length) (hh : ∀ x ∈ has, 0 ≤ x) (hs : ∀ k, sort = some k → 0 ≤ k ∧ k < (has.length : Int)) : ((m_judge has asks told sort && !decide (asks.sum - (((told.map fun r : Row => r.2.2).map vI).sum) = m_lacking has asks)) || (m_is_given has asks told && decide (asks.sum - (((told.map fun r : Row => r.2.2).map vI).sum) < m_lacking has asks))) = false := by
  have e : ((told.map fun r : Row => r.2.2).map vI).sum = tot3 told := by unfold tot3; rw [List.map_map]; rfl
  rw [e, Bool.or_eq_false_iff]
  refine ⟨?_, ?_⟩
  · cases q : m_judge has asks told sort with
    | false => rfl
    | true => rw [right_of hl hh hs q]; simp
  · cases q : m_is_given has asks told with
    | false => rfl
    | true =>
      have := given_short hl hh (given_iff.mp q)
      rw [decide_eq_false (by omega)]; rfl
end GP

namespace GP
open PySem PySem.Spec PyProof.Rows L2 G
/-! ### all ways, load by load -/
def dc (L : List Int) (s : Nat) : List Int := L.set s (gI L (s : Int) - 1)
def ic (L : List Int) (s : Nat) : List Int := L.set s (gI L (s : Int) + 1)
theorem gI_set (L : List Int) (s i : Nat) (v : Int) (hs : s < L.length) : gI (L.set s v) (i : Int) = if i = s then v else gI L (i : Int) := by
  rw [gI_nat, gI_nat, List.getElem!_eq_getElem?_getD, List.getElem!_eq_getElem?_getD]
  by_cases h : i = s
  · subst h; rw [List.getElem?_set_self hs, if_pos rfl]; rfl
  · rw [List.getElem?_set_ne (fun z => h z.symm), if_neg h]
theorem ext_gI {A B : List Int} (hl : A.length = B.length) (h : ∀ i : Nat, i < A.length → gI A (i : Int) = gI B (i : Int)) : A = B := by
  refine List.ext_getElem hl fun i h1 h2 => ?_
  have := h i h1
  rw [gI_nat, gI_nat, getElem!_pos A i h1, getElem!_pos B i h2] at this
  exact this
theorem dc_len (L : List Int) (s : Nat) : (dc L s).length = L.length := List.length_set
theorem ic_len (L : List Int) (s : Nat) : (ic L s).length = L.length := List.length_set
theorem gI_dc {L : List Int} {s : Nat} (hs : s < L.length) (i : Nat) : gI (dc L s) (i : Int) = if i = s then gI L (s : Int) - 1 else gI L (i : Int) := gI_set L s i _ hs
theorem gI_ic {L : List Int} {s : Nat} (hs : s < L.length) (i : Nat) : gI (ic L s) (i : Int) = if i = s then gI L (s : Int) + 1 else gI L (i : Int) := gI_set L s i _ hs
/-- a way of giving loads: asked one by one -/
def Way : List Int → List Nat → Int → Prop
  | _, [], c => c = 0
  | L, a :: as, c => ∃ (s : Nat) (c1 : Int), a ≤ s ∧ s < L.length ∧ 0 < gI L (s : Int) ∧ Way (dc L s) as c1 ∧ c = c1 + (s : Int) - (a : Int)
/-- a better sort is left by a worse one -/
def Nn (L : List Int) : Prop := ∀ i : Nat, i < L.length → 0 ≤ gI L (i : Int)
theorem nn_dc {L : List Int} {s : Nat} (n : Nn L) (hs : s < L.length) (h : 0 < gI L (s : Int)) : Nn (dc L s) := fun i hi => by
  rw [dc_len] at hi
  rw [gI_dc hs]
  split
  · omega
  · exact n i hi
theorem way_swap : ∀ (as : List Nat) (L : List Int) (c : Int) (s t : Nat), Nn L → Way L as c → s < t → t < L.length → (∀ a ∈ as, a ≤ s) → 0 < gI L (s : Int) → ∃ c', Way (ic (dc L s) t) as c' ∧ c' ≤ c + (t : Int) - (s : Int)
  | [], L, c, s, t, n, h, hst, ht, ha, h0 => ⟨0, rfl, by have : c = 0 := h; omega⟩
  | a :: as, L, c, s, t, n, h, hst, ht, ha, h0 => by
    obtain ⟨u, c1, h1, h2, h3, h4, h5⟩ := h
    have hs : s < L.length := by omega
    by_cases q : u = s
    · subst q
      refine ⟨c1 + (t : Int) - (a : Int), ⟨t, c1, by omega, by rw [ic_len, dc_len]; omega, ?_, ?_, rfl⟩, by omega⟩
      · rw [gI_ic (by rw [dc_len]; omega), if_pos rfl, gI_dc hs, if_neg (by omega)]
        have := n t ht
        omega
      · have e : dc (ic (dc L u) t) t = dc L u := ext_gI (by rw [dc_len, ic_len]) fun i hi => by
          rw [gI_dc (by rw [ic_len, dc_len]; omega), gI_ic (by rw [dc_len]; omega), gI_ic (by rw [dc_len]; omega)]
          by_cases z : i = t
          · rw [if_pos z, if_pos rfl, z]; omega
          · rw [if_neg z, if_neg z]
        rw [e]; exact h4
    · obtain ⟨c', g1, g2⟩ := way_swap as (dc L u) c1 s t (nn_dc n h2 h3) h4 hst (by rw [dc_len]; omega) (fun x hx => ha x (List.mem_cons_of_mem _ hx)) (by rw [gI_dc h2, if_neg (fun z => q z.symm)]; exact h0)
      refine ⟨c' + (u : Int) - (a : Int), ⟨u, c', h1, by rw [ic_len, dc_len]; omega, ?_, ?_, rfl⟩, by omega⟩
      · rw [gI_ic (by rw [dc_len]; omega)]
        by_cases z : u = t
        · rw [if_pos z, gI_dc hs, if_neg (by omega), ← z]; omega
        · rw [if_neg z, gI_dc hs, if_neg q]; exact h3
      · have e : dc (ic (dc L s) t) u = ic (dc (dc L u) s) t := ext_gI (by rw [dc_len, ic_len, dc_len, ic_len, dc_len, dc_len]) fun i hi => by
          rw [dc_len, ic_len, dc_len] at hi
          have A := gI_dc (L := ic (dc L s) t) (s := u) (by rw [ic_len, dc_len]; omega)
          have B := gI_ic (L := dc L s) (s := t) (by rw [dc_len]; omega)
          have C := gI_dc (L := L) (s := s) hs
          have D := gI_ic (L := dc (dc L u) s) (s := t) (by rw [dc_len, dc_len]; omega)
          have E := gI_dc (L := dc L u) (s := s) (by rw [dc_len]; omega)
          have F := gI_dc (L := L) (s := u) h2
          simp only [A, B, C, D, E, F]
          by_cases z1 : i = u
          · subst z1
            by_cases z4 : i = t
            · subst z4; simp [q, show ¬ i = s from q, show ¬ s = i from fun z => q z.symm]
            · simp [q, z4, show ¬ s = i from fun z => q z.symm]
          · by_cases z2 : i = s
            · subst z2; simp [z1, show ¬ i = t by omega]
            · by_cases z3 : i = t
              · subst z3; simp [z1, z2]
              · simp [z1, z2, z3]
        rw [e]; exact g1
/-- the lowest good sort -/
def lo1 (L : List Int) (a : Nat) : Option Nat := (uF (L.drop a) (a : Int)).map fun g => g.toNat
theorem uF_min : ∀ (ls : List Int) (s : Int) (i : Nat), i < ls.length → 0 < gI ls (i : Int) → ∃ g, uF ls s = some (s + (g : Nat)) ∧ g ≤ i ∧ 0 < gI ls ((g : Nat) : Int)
  | [], _, i, h, _ => by simp at h
  | l :: ls, s, i, h, hp => by
    show ∃ g, (if 0 < l then some s else uF ls (s + 1)) = _ ∧ _
    by_cases q : 0 < l
    · exact ⟨0, by rw [if_pos q]; simp, by omega, q⟩
    · cases i with
      | zero => exact absurd hp q
      | succ j =>
        rw [gI_cons] at hp
        obtain ⟨g, h1, h2, h3⟩ := uF_min ls (s + 1) j (by simpa using h) hp
        exact ⟨g + 1, by rw [if_neg q, h1]; congr 1; omega, by omega, by rw [gI_cons]; exact h3⟩
theorem gI_drop {L : List Int} {a i : Nat} (h : a + i < L.length) : gI (L.drop a) (i : Int) = gI L ((a + i : Nat) : Int) := by
  rw [gI_nat, gI_nat, getElem!_pos (L.drop a) i (by rw [List.length_drop]; omega), getElem!_pos L (a + i) h, List.getElem_drop]
theorem lo1_some {L : List Int} {a s : Nat} (h1 : a ≤ s) (h2 : s < L.length) (h3 : 0 < gI L (s : Int)) : ∃ g, lo1 L a = some g ∧ a ≤ g ∧ g ≤ s ∧ 0 < gI L (g : Int) := by
  obtain ⟨g, e1, e2, e3⟩ := uF_min (L.drop a) (a : Int) (s - a) (by rw [List.length_drop]; omega) (by rw [gI_drop (by omega), show a + (s - a) = s by omega]; exact h3)
  rw [gI_drop (by omega)] at e3
  exact ⟨a + g, by unfold lo1; rw [e1]; show some _ = _; congr 1, by omega, by omega, e3⟩
theorem lo1_ok {L : List Int} {a g : Nat} (h : lo1 L a = some g) : a ≤ g ∧ g < L.length ∧ 0 < gI L (g : Int) := by
  unfold lo1 at h
  cases q : uF (L.drop a) (a : Int) with
  | none => rw [q] at h; cases h
  | some x =>
    rw [q] at h
    have e : x.toNat = g := Option.some.inj h
    have h1 := uF_ge _ _ _ q
    have h2 := (uF_ge2 _ _ _ q).1
    rw [List.length_drop] at h1
    have e2 : x - (a : Int) = ((g - a : Nat) : Int) := by omega
    rw [e2, gI_drop (by omega), show a + (g - a) = g by omega] at h2
    exact ⟨by omega, by omega, h2⟩
/-- the greedy way -/
def gw : List Int → List Nat → Option (List Int × Int)
  | L, [] => some (L, 0)
  | L, a :: as => match lo1 L a with
    | none => none
    | some g => (gw (dc L g) as).map fun r : List Int × Int => (r.1, r.2 + (g : Int) - (a : Int))
theorem gw_way : ∀ (as : List Nat) (L : List Int) (r : List Int × Int), gw L as = some r → Way L as r.2
  | [], L, r, h => by cases h; rfl
  | a :: as, L, r, h => by
    have h' : (match lo1 L a with | none => none | some g => (gw (dc L g) as).map fun r : List Int × Int => (r.1, r.2 + (g : Int) - (a : Int))) = some r := h
    cases q : lo1 L a with
    | none => rw [q] at h'; cases h'
    | some g =>
      rw [q] at h'
      obtain ⟨r1, h1, h2⟩ := Option.map_eq_some_iff.mp h'
      obtain ⟨g1, g2, g3⟩ := lo1_ok q
      exact ⟨g, r1.2, g1, g2, g3, gw_way as _ _ h1, by rw [← h2]⟩
theorem gw_best : ∀ (as : List Nat) (L : List Int) (c : Int), Nn L → as.Pairwise (fun x y => y ≤ x) → Way L as c → ∃ r, gw L as = some r ∧ r.2 ≤ c
  | [], L, c, n, pw, h => ⟨_, rfl, by have : c = 0 := h; show (0 : Int) ≤ c; omega⟩
  | a :: as, L, c, n, pw, h => by
    obtain ⟨s, c1, h1, h2, h3, h4, h5⟩ := h
    obtain ⟨g, e1, e2, e3, e4⟩ := lo1_some h1 h2 h3
    have pw2 := List.pairwise_cons.mp pw
    have key : ∃ c2, Way (dc L g) as c2 ∧ c2 ≤ c1 + (s : Int) - (g : Int) := by
      by_cases q : g = s
      · subst q; exact ⟨c1, h4, by omega⟩
      · obtain ⟨c', k1, k2⟩ := way_swap as (dc L s) c1 g s (nn_dc n h2 h3) h4 (by omega) (by rw [dc_len]; omega) (fun x hx => by have := pw2.1 x hx; omega) (by rw [gI_dc h2, if_neg q]; exact e4)
        have e : ic (dc (dc L s) g) s = dc L g := ext_gI (by rw [ic_len, dc_len, dc_len, dc_len]) fun i hi => by
          have A := gI_ic (L := dc (dc L s) g) (s := s) (by rw [dc_len, dc_len]; omega)
          have B := gI_dc (L := dc L s) (s := g) (by rw [dc_len]; omega)
          have C := gI_dc (L := L) (s := s) h2
          have D := gI_dc (L := L) (s := g) (by omega)
          simp only [A, B, C, D]
          by_cases z : i = s
          · subst z; simp [show ¬ i = g from fun z => q z.symm, q]
          · by_cases z2 : i = g
            · subst z2; simp [z]
            · simp [z, z2]
        rw [e] at k1
        exact ⟨c', k1, k2⟩
    obtain ⟨c2, k1, k2⟩ := key
    obtain ⟨r, r1, r2⟩ := gw_best as (dc L g) c2 (nn_dc n (by omega) e4) pw2.2 k1
    refine ⟨(r.1, r.2 + (g : Int) - (a : Int)), ?_, by show r.2 + (g : Int) - (a : Int) ≤ c; omega⟩
    show (match lo1 L a with | none => none | some g => (gw (dc L g) as).map fun r : List Int × Int => (r.1, r.2 + (g : Int) - (a : Int))) = _
    rw [e1]
    show (gw (dc L g) as).map _ = _
    rw [r1]; rfl
theorem gw_app : ∀ (as bs : List Nat) (L : List Int), gw L (as ++ bs) = (gw L as).bind fun r : List Int × Int => (gw r.1 bs).map fun q : List Int × Int => (q.1, q.2 + r.2)
  | [], bs, L => by
    show gw L bs = (gw L bs).map fun q : List Int × Int => (q.1, q.2 + 0)
    cases gw L bs <;> simp
  | a :: as, bs, L => by
    show (match lo1 L a with | none => none | some g => (gw (dc L g) (as ++ bs)).map fun r : List Int × Int => (r.1, r.2 + (g : Int) - (a : Int))) = (match lo1 L a with | none => none | some g => (gw (dc L g) as).map fun r : List Int × Int => (r.1, r.2 + (g : Int) - (a : Int))).bind _
    cases lo1 L a with
    | none => rfl
    | some g =>
      show (gw (dc L g) (as ++ bs)).map _ = ((gw (dc L g) as).map _).bind _
      rw [gw_app as bs (dc L g)]
      cases gw (dc L g) as with
      | none => rfl
      | some r =>
        show ((gw r.1 bs).map _).map _ = (gw r.1 bs).map _
        rw [Option.map_map]
        congr 1
        funext q
        show (q.1, q.2 + r.2 + (g : Int) - (a : Int)) = (q.1, q.2 + (r.2 + (g : Int) - (a : Int)))
        congr 1; omega
/-! ### the greedy way is what allotted does -/
def costE (a : Int) (E : List (Int × Int)) : Int := (E.map fun e => (e.1 - a) * e.2).sum
theorem costE_bE (a g : Int) : ∀ {E : List (Int × Int)}, (E.map (·.1)).Nodup → costE a (bE E g) = costE a E + (g - a)
  | [], _ => by show (g - a) * (0 + 1) + 0 = 0 + (g - a); omega
  | p :: r, nd => by
    have nd2 := List.nodup_cons.mp nd
    by_cases q : p.1 = g
    · have e : bE (p :: r) g = (g, p.2 + 1) :: rv r g (p.2 + 1) := by
        unfold bE
        rw [show gv (p :: r) g = some p.2 by unfold gv; rw [if_pos q]]
        show (if p.1 = g then _ else _) = _
        rw [if_pos q]; rfl
      rw [e, rv_out (by rw [← q]; exact nd2.1)]
      show (g - a) * (p.2 + 1) + _ = ((p.1 - a) * p.2 + _) + (g - a)
      rw [q, Int.mul_add]; omega
    · have e : bE (p :: r) g = p :: bE r g := by
        unfold bE
        rw [show gv (p :: r) g = gv r g by rw [gv]; rw [if_neg q]]
        show (if p.1 = g then _ else _) = _
        rw [if_neg q]
      rw [e]
      show (p.1 - a) * p.2 + costE a (bE r g) = ((p.1 - a) * p.2 + costE a r) + (g - a)
      rw [costE_bE a g nd2.2]; omega
theorem sum_pos : ∀ (ls : List Int), 0 < ls.sum → ∃ i, i < ls.length ∧ 0 < gI ls ((i : Nat) : Int)
  | [], h => by simp at h
  | l :: ls, h => by
    by_cases q : 0 < l
    · exact ⟨0, by simp, q⟩
    · rw [List.sum_cons] at h
      obtain ⟨i, h1, h2⟩ := sum_pos ls (by omega)
      exact ⟨i + 1, by simpa using h1, by rw [gI_cons]; exact h2⟩
theorem gw_rep {L : List Int} {a : Nat} (hL : ∀ x ∈ L, 0 ≤ x) (ha : a ≤ L.length) : ∀ t : Nat, (t : Int) ≤ (L.drop a).sum → gw L (List.replicate t a) = some (L.take a ++ pL (t : Int) (L.drop a), costE (a : Int) (pE (t : Int) (L.drop a) (a : Int)))
  | 0, _ => by
    have hn := fun x hx => hL x (List.mem_of_mem_drop (i := a) hx)
    rw [show ((0 : Nat) : Int) = 0 from rfl, pL_zero _ hn, pE_zero _ _ hn, List.take_append_drop]; rfl
  | t + 1, h => by
    have hn := fun x hx => hL x (List.mem_of_mem_drop (i := a) hx)
    have ih := gw_rep hL ha t (by omega)
    have hs := pL_sum (L.drop a) (t : Int) (by omega) hn
    obtain ⟨i, h1, h2⟩ := sum_pos (pL (t : Int) (L.drop a)) (by rw [hs]; omega)
    obtain ⟨g, g1, g2, g3⟩ := uF_min (pL (t : Int) (L.drop a)) (a : Int) i h1 h2
    have lt : (L.take a).length = a := by rw [List.length_take]; omega
    have e1 : lo1 (L.take a ++ pL (t : Int) (L.drop a)) a = some (a + g) := by
      unfold lo1
      rw [List.drop_left' lt, g1]
      show some _ = _; congr 1
    have hu := uF_ge2 _ _ _ g1
    have e2 : dc (L.take a ++ pL (t : Int) (L.drop a)) (a + g) = L.take a ++ pL ((t + 1 : Nat) : Int) (L.drop a) := by
      rw [show ((t + 1 : Nat) : Int) = (t : Int) + 1 by omega, pL_succ _ _ (by omega) hn, hu.2, show (a : Int) + (g : Int) - (a : Int) = ((g : Nat) : Int) by omega]
      unfold dc
      rw [gI_app_r (A := L.take a) (i := g) (n := a + g) (by rw [lt]), List.set_append_right _ _ (by rw [lt]; omega), lt, show a + g - a = g by omega]
      unfold setI
      rw [if_neg (by omega), Int.toNat_natCast]
    have e3 : pE ((t + 1 : Nat) : Int) (L.drop a) (a : Int) = bE (pE (t : Int) (L.drop a) (a : Int)) ((a : Int) + (g : Int)) := by
      rw [show ((t + 1 : Nat) : Int) = (t : Int) + 1 by omega, pE_succ _ _ _ (by omega) hn, g1]
    rw [List.replicate_succ', gw_app, ih]
    show (match lo1 (L.take a ++ pL (t : Int) (L.drop a)) a with | none => none | some g => (gw (dc (L.take a ++ pL (t : Int) (L.drop a)) g) []).map fun r : List Int × Int => (r.1, r.2 + (g : Int) - (a : Int))).map _ = _
    rw [e1]
    show some ((dc (L.take a ++ pL (t : Int) (L.drop a)) (a + g)), (0 + ((a + g : Nat) : Int) - (a : Int)) + _) = _
    rw [e2, e3, costE_bE _ _ (pE_nd _ _ _)]
    congr 2
    omega
def m_raised (told : List (Int × Int × Int)) : Int := (told.map fun r => (r.1 - r.2.1) * r.2.2).sum
def Fit (has asks : List Int) : Prop := ∀ j : Nat, j < asks.length → (asks.drop j).sum ≤ (has.drop j).sum
def sq (asks : List Int) : Nat → List Nat
  | 0 => []
  | k + 1 => sq asks k ++ List.replicate (gI asks ((asks.length - 1 - k : Nat) : Int)).toNat (asks.length - 1 - k)
theorem raised_mp (a : Int) (E : List (Int × Int)) : m_raised (mp a E) = costE a E := by unfold m_raised mp costE; rw [List.map_map]; rfl
theorem raised_app (A B : List (Int × Int × Int)) : m_raised (A ++ B) = m_raised A + m_raised B := by unfold m_raised; rw [List.map_append, List.sum_append]
theorem gw_als {has asks : List Int} (hl : has.length = asks.length) (hh : ∀ x ∈ has, 0 ≤ x) (ha : ∀ x ∈ asks, 0 ≤ x) (hf : Fit has asks) : ∀ k, k ≤ asks.length → gw has (sq asks k) = some ((alS has asks k).1, m_raised (alS has asks k).2)
  | 0, _ => by rw [alS_zero]; rfl
  | k + 1, h => by
    have ih := gw_als hl hh ha hf k (by omega)
    have I := als_is hl hh ha k (by omega)
    obtain ⟨i1, i2⟩ := als_sum hl hh ha k (by omega)
    obtain ⟨a, hadef⟩ : ∃ a : Nat, a = asks.length - 1 - k := ⟨_, rfl⟩
    have e0 : ((asks.length : Int) - 1 - (k : Int)) = (a : Int) := by omega
    rw [alS_succ has asks (by omega), e0]
    show gw has (sq asks k ++ List.replicate (gI asks ((asks.length - 1 - k : Nat) : Int)).toNat (asks.length - 1 - k)) = _
    rw [← hadef, gw_app, ih]
    rw [show asks.length - k = a + 1 by omega] at i1 i2
    generalize alS has asks k = st at i1 i2 I
    have g0 : 0 ≤ gI asks (a : Int) := ha _ (gI_mem (by omega))
    have ll := I.len
    have u0 : (asks.drop (a + 1)).sum - gvn st.2 = 0 := by
      rcases i2.is with z | ⟨j, j1, j2, z⟩
      · exact z
      · have := hf j j2; have := i2.nn; omega
    have eg : gI st.1 (a : Int) = gI has (a : Int) := by
      have := congrArg (fun l => l[a]?) I.low
      rw [List.getElem?_take, List.getElem?_take, if_pos (by omega)] at this
      rw [gI_nat, gI_nat, List.getElem!_eq_getElem?_getD, List.getElem!_eq_getElem?_getD, this, if_pos (by omega)]
    have d1 := drop_at (xs := st.1) (k := a) (by omega)
    have d2 := drop_at (xs := has) (k := a) (by omega)
    have d3 := drop_at (xs := asks) (k := a) (by omega)
    have f1 := hf a (by omega)
    have hr := gw_rep (L := st.1) (a := a) I.nn (by omega) (gI asks (a : Int)).toNat (by omega)
    rw [show (((gI asks (a : Int)).toNat : Nat) : Int) = gI asks (a : Int) by omega] at hr
    show (gw st.1 (List.replicate (gI asks (a : Int)).toNat a)).map _ = _
    rw [hr]
    unfold stp
    rw [show (a : Int).toNat = a by omega]
    show some ((_, costE (a : Int) _ + m_raised st.2) : List Int × Int) = some (_, m_raised (st.2 ++ mp (a : Int) _))
    rw [raised_app, raised_mp, Int.add_comm]
theorem sum_dc {L : List Int} {s j : Nat} (hs : s < L.length) : ((dc L s).drop j).sum = (L.drop j).sum - (if j ≤ s then 1 else 0) := by
  induction L generalizing s j with
  | nil => simp at hs
  | cons l L ih =>
    cases j with
    | zero =>
      cases s with
      | zero =>
        show ((l :: L).set 0 (l - 1)).sum = _
        rw [List.set_cons_zero, List.sum_cons]; show _ = (l :: L).sum - _; rw [List.sum_cons]; simp; omega
      | succ s =>
        have := ih (s := s) (j := 0) (by simpa using hs)
        have e : dc (l :: L) (s + 1) = l :: dc L s := by unfold dc; rw [gI_cons, List.set_cons_succ]
        rw [e]
        show (l :: dc L s).sum = (l :: L).sum - _
        rw [List.sum_cons, List.sum_cons]
        simp only [List.drop_zero, Nat.zero_le, if_true] at this ⊢
        omega
    | succ j =>
      cases s with
      | zero =>
        show (((l :: L).set 0 _).drop (j + 1)).sum = _
        rw [List.set_cons_zero, List.drop_succ_cons, List.drop_succ_cons, if_neg (by omega)]; omega
      | succ s =>
        have e : dc (l :: L) (s + 1) = l :: dc L s := by unfold dc; rw [gI_cons, List.set_cons_succ]
        rw [e, List.drop_succ_cons, List.drop_succ_cons, ih (by simpa using hs)]
        by_cases q : j ≤ s
        · rw [if_pos q, if_pos (by omega)]
        · rw [if_neg q, if_neg (by omega)]
theorem nn_sum {L : List Int} (n : Nn L) (j : Nat) : 0 ≤ (L.drop j).sum := sum_nn _ fun x hx => by
  obtain ⟨i, hi, e⟩ := List.mem_iff_getElem.mp (List.mem_of_mem_drop hx)
  have := n i hi
  rw [gI_nat, getElem!_pos L i hi, e] at this
  exact this
theorem way_cnt : ∀ (as : List Nat) (L : List Int) (c : Int) (j : Nat), Nn L → Way L as c → ((as.filter fun a => decide (j ≤ a)).length : Int) ≤ (L.drop j).sum
  | [], L, c, j, n, h => by have := nn_sum n j; simpa using this
  | a :: as, L, c, j, n, h => by
    obtain ⟨s, c1, h1, h2, h3, h4, h5⟩ := h
    have ih := way_cnt as (dc L s) c1 j (nn_dc n h2 h3) h4
    rw [sum_dc h2] at ih
    rw [List.filter_cons]
    by_cases q : j ≤ a
    · rw [if_pos (decide_eq_true q), List.length_cons]
      rw [if_pos (by omega)] at ih
      omega
    · rw [if_neg (by simpa using q)]
      split at ih <;> omega
theorem sq_cnt {asks : List Int} (ha : ∀ x ∈ asks, 0 ≤ x) (j : Nat) : ∀ k, k ≤ asks.length → (((sq asks k).filter fun a => decide (j ≤ a)).length : Int) = (asks.drop (max j (asks.length - k))).sum
  | 0, _ => by rw [List.drop_of_length_le (by omega)]; rfl
  | k + 1, h => by
    have ih := sq_cnt ha j k (by omega)
    show (((sq asks k ++ List.replicate (gI asks ((asks.length - 1 - k : Nat) : Int)).toNat (asks.length - 1 - k)).filter _).length : Int) = _
    obtain ⟨a, hadef⟩ : ∃ a : Nat, a = asks.length - 1 - k := ⟨_, rfl⟩
    rw [← hadef, List.filter_append, List.length_append, Int.natCast_add, ih, show asks.length - k = a + 1 by omega, show asks.length - (k + 1) = a by omega]
    have g0 : 0 ≤ gI asks (a : Int) := ha _ (gI_mem (by omega))
    by_cases q : j ≤ a
    · rw [List.filter_eq_self.mpr (fun x hx => by rw [(List.mem_replicate.mp hx).2]; exact decide_eq_true q), List.length_replicate, show max j (a + 1) = a + 1 by omega, show max j a = a by omega, drop_at (xs := asks) (k := a) (by omega)]
      omega
    · rw [List.filter_eq_nil_iff.mpr (fun x hx => by rw [(List.mem_replicate.mp hx).2]; simpa using q), show max j (a + 1) = max j a by omega]
      simp
theorem way_fit {has asks : List Int} {c : Int} (hl : has.length = asks.length) (hh : Nn has) (ha : ∀ x ∈ asks, 0 ≤ x) (h : Way has (sq asks asks.length) c) : Fit has asks := fun j hj => by
  have h1 := way_cnt _ _ _ j hh h
  rw [sq_cnt ha j asks.length (Nat.le_refl _), show max j (asks.length - asks.length) = j by omega] at h1
  exact h1
theorem sq_desc (asks : List Int) : ∀ k, k ≤ asks.length → (sq asks k).Pairwise (fun x y => y ≤ x) ∧ ∀ x ∈ sq asks k, asks.length - k ≤ x
  | 0, _ => ⟨List.Pairwise.nil, fun x h => by cases h⟩
  | k + 1, h => by
    obtain ⟨i1, i2⟩ := sq_desc asks k (by omega)
    refine ⟨List.pairwise_append.mpr ⟨i1, ?_, fun x hx y hy => ?_⟩, fun x hx => ?_⟩
    · refine List.pairwise_replicate.mpr (.inr (Nat.le_refl _))
    · have := i2 x hx; rw [(List.mem_replicate.mp hy).2]; omega
    · rcases List.mem_append.mp hx with z | z
      · have := i2 x z; omega
      · rw [(List.mem_replicate.mp z).2]; omega
end GP

namespace GP
open PySem PySem.Spec PyProof.Rows L2 G
/-! ### the states -/
abbrev DS : Type := List (List Int × Int)
def stpR (a : Nat) (R : List Int → Int → Prop) : List Int → Int → Prop := fun L' c' => ∃ (L : List Int) (c : Int) (s : Nat), R L c ∧ a ≤ s ∧ s < L.length ∧ 0 < gI L (s : Int) ∧ L' = dc L s ∧ c' = c + (s : Int) - (a : Int)
def Rf (R : List Int → Int → Prop) (as : List Nat) : List Int → Int → Prop := as.foldl (fun R a => stpR a R) R
theorem rf_app (R : List Int → Int → Prop) (as : List Nat) (a : Nat) : Rf R (as ++ [a]) = stpR a (Rf R as) := by unfold Rf; rw [List.foldl_append]; rfl
theorem rf_way : ∀ (as : List Nat) (R : List Int → Int → Prop) (L' : List Int) (c' : Int), Rf R as L' c' → ∃ L c w, R L c ∧ Way L as w ∧ c' = c + w
  | [], R, L', c', h => ⟨L', c', 0, h, rfl, by omega⟩
  | a :: as, R, L', c', h => by
    obtain ⟨L1, c1, w, ⟨L, c, s, h1, h2, h3, h4, rfl, h6⟩, h7, h8⟩ := rf_way as (stpR a R) L' c' h
    exact ⟨L, c, w + (s : Int) - (a : Int), h1, ⟨s, w, h2, h3, h4, h7, rfl⟩, by omega⟩
theorem way_rf : ∀ (as : List Nat) (R : List Int → Int → Prop) (L : List Int) (c w : Int), R L c → Way L as w → ∃ L', Rf R as L' (c + w)
  | [], R, L, c, w, h, hw => ⟨L, by have : w = 0 := hw; subst this; rw [Int.add_zero]; exact h⟩
  | a :: as, R, L, c, w, h, hw => by
    obtain ⟨s, w1, h1, h2, h3, h4, h5⟩ := hw
    obtain ⟨L', q⟩ := way_rf as (stpR a R) (dc L s) (c + (s : Int) - (a : Int)) w1 ⟨L, c, s, h, h1, h2, h3, rfl, rfl⟩ h4
    exact ⟨L', by rw [show c + w = c + (s : Int) - (a : Int) + w1 by omega]; exact q⟩
def Shp (n : Nat) (L : List Int) : Prop := L.length = n ∧ ∀ x ∈ L, 0 ≤ x ∧ x ≤ 4
theorem shp_dc {n : Nat} {L : List Int} {s : Nat} (h : Shp n L) (hs : s < L.length) (hp : 0 < gI L (s : Int)) : Shp n (dc L s) := ⟨by rw [dc_len]; exact h.1, fun x hx => by
  unfold dc at hx
  rcases List.mem_or_eq_of_mem_set hx with z | z
  · exact h.2 x z
  · have := h.2 _ (gI_mem (xs := L) (i := (s : Int)) (by omega)); omega⟩
structure Sts (n : Nat) (D : DS) (R : List Int → Int → Prop) : Prop where
  mem : ∀ L c, gv D L = some c → R L c
  cov : ∀ L c, R L c → ∃ c', gv D L = some c' ∧ c' ≤ c
  nd : (D.map (·.1)).Nodup
  shp : ∀ L c, R L c → Shp n L
theorem sts_iff {n : Nat} {D : DS} {R R' : List Int → Int → Prop} (h : Sts n D R) (e : ∀ L c, R L c ↔ R' L c) : Sts n D R' := ⟨fun L c q => (e L c).mp (h.mem L c q), fun L c q => h.cov L c ((e L c).mpr q), h.nd, fun L c q => h.shp L c ((e L c).mpr q)⟩
theorem sts_zero {n : Nat} {has : List Int} (h : Shp n has) : Sts n [(has, 0)] (fun L c => L = has ∧ c = 0) := ⟨fun L c q => by
    have q' : (if has = L then some (0 : Int) else none) = some c := q
    by_cases z : has = L
    · rw [if_pos z] at q'; cases q'; exact ⟨z.symm, rfl⟩
    · rw [if_neg z] at q'; exact absurd q' (by simp), fun L c q => by
    obtain ⟨rfl, rfl⟩ := q
    exact ⟨0, by show (if L = L then some (0 : Int) else none) = _; rw [if_pos rfl], Int.le_refl _⟩, by simp, fun L c q => by obtain ⟨rfl, rfl⟩ := q; exact h⟩
theorem sts_nil {n : Nat} : Sts n [] (fun _ _ => False) := ⟨fun L c q => (by cases q), fun _ _ q => False.elim q, List.nodup_nil, fun _ _ q => False.elim q⟩
theorem sts_put {n : Nat} {D : DS} {P : List Int → Int → Prop} {k : List Int} {t : Int} (h : Sts n D P) (hk : Shp n k) (hc : hasK D k = false ∨ t < gD D k) : Sts n (pv D k t) (fun L c => P L c ∨ (L = k ∧ c = t)) := ⟨fun L c q => by
    rw [gv_pv] at q
    by_cases z : k = L
    · rw [if_pos z] at q; cases q; exact .inr ⟨z.symm, rfl⟩
    · rw [if_neg z] at q; exact .inl (h.mem L c q), fun L c q => by
    rw [gv_pv]
    by_cases z : k = L
    · rw [if_pos z]
      refine ⟨t, rfl, ?_⟩
      rcases q with q | ⟨_, q⟩
      · obtain ⟨c', h1, h2⟩ := h.cov L c q
        rw [← z] at h1
        rcases hc with hc | hc
        · unfold hasK at hc; rw [h1] at hc; cases hc
        · have : gD D k = c' := by unfold gD; rw [h1]; rfl
          omega
      · omega
    · rw [if_neg z]
      rcases q with q | ⟨q, _⟩
      · exact h.cov L c q
      · exact absurd q.symm z, pv_nd h.nd k t, fun L c q => by
    rcases q with q | ⟨rfl, _⟩
    · exact h.shp L c q
    · exact hk⟩
theorem sts_skip {n : Nat} {D : DS} {P : List Int → Int → Prop} {k : List Int} {t : Int} (h : Sts n D P) (hk : Shp n k) (hc : hasK D k = true ∧ ¬ t < gD D k) : Sts n D (fun L c => P L c ∨ (L = k ∧ c = t)) := ⟨fun L c q => .inl (h.mem L c q), fun L c q => by
    rcases q with q | ⟨rfl, rfl⟩
    · exact h.cov L c q
    · obtain ⟨v, hv⟩ := Option.isSome_iff_exists.mp hc.1
      have : gD D L = v := by unfold gD; rw [hv]; rfl
      exact ⟨v, hv, by have := hc.2; omega⟩, h.nd, fun L c q => by
    rcases q with q | ⟨rfl, _⟩
    · exact h.shp L c q
    · exact hk⟩
/-- what is got from one state -/
def Cd (D : DS) (a : Nat) (left : List Int) (L' : List Int) (c' : Int) (s : Nat) : Prop := a ≤ s ∧ s < left.length ∧ 0 < gI left (s : Int) ∧ L' = dc left s ∧ c' = gD D left + (s : Int) - (a : Int)
def Pk (D : DS) (a : Nat) (ks : List (List Int)) : List Int → Int → Prop := fun L' c' => ∃ left ∈ ks, ∃ s, Cd D a left L' c' s
def Pj (D : DS) (a : Nat) (ks : List (List Int)) (left : List Int) (j : Nat) : List Int → Int → Prop := fun L' c' => Pk D a ks L' c' ∨ ∃ s, s < a + j ∧ Cd D a left L' c' s
theorem pj_zero {n : Nat} {D D2 : DS} {a : Nat} {ks : List (List Int)} {left : List Int} (h : Sts n D2 (Pk D a ks)) : Sts n D2 (Pj D a ks left 0) := sts_iff h fun L c => ⟨.inl, fun q => by
  rcases q with q | ⟨s, h1, h2, _⟩
  · exact q
  · omega⟩
theorem pj_no {n : Nat} {D D2 : DS} {a j : Nat} {ks : List (List Int)} {left : List Int} (h : Sts n D2 (Pj D a ks left j)) (hz : ¬ 0 < gI left ((a : Int) + (j : Int))) : Sts n D2 (Pj D a ks left (j + 1)) := sts_iff h fun L c => ⟨fun q => by
  rcases q with q | ⟨s, h1, h2⟩
  · exact .inl q
  · exact .inr ⟨s, by omega, h2⟩, fun q => by
  rcases q with q | ⟨s, h1, h2⟩
  · exact .inl q
  · by_cases z : s = a + j
    · exact absurd h2.2.2.1 (by rw [z, show ((a + j : Nat) : Int) = (a : Int) + (j : Int) by omega]; exact hz)
    · exact .inr ⟨s, by omega, h2⟩⟩
theorem pj_yes {n : Nat} {D D2 : DS} {a j : Nat} {ks : List (List Int)} {left : List Int} (hl : a + j < left.length) (hz : 0 < gI left ((a : Int) + (j : Int))) (h : Sts n D2 (fun L c => Pj D a ks left j L c ∨ (L = dc left (a + j) ∧ c = gD D left + ((a : Int) + (j : Int)) - (a : Int)))) : Sts n D2 (Pj D a ks left (j + 1)) := sts_iff h fun L c => ⟨fun q => by
  rcases q with (q | ⟨s, h1, h2⟩) | ⟨h1, h2⟩
  · exact .inl q
  · exact .inr ⟨s, by omega, h2⟩
  · exact .inr ⟨a + j, by omega, by omega, hl, by rw [show ((a + j : Nat) : Int) = (a : Int) + (j : Int) by omega]; exact hz, h1, by rw [h2]; omega⟩, fun q => by
  rcases q with q | ⟨s, h1, h2⟩
  · exact .inl (.inl q)
  · by_cases z : s = a + j
    · subst z
      exact .inr ⟨h2.2.2.2.1, by rw [h2.2.2.2.2]; omega⟩
    · exact .inl (.inr ⟨s, by omega, h2⟩)⟩
theorem pj_end {n : Nat} {D D2 : DS} {a j : Nat} {ks : List (List Int)} {left : List Int} (h : Sts n D2 (Pj D a ks left j)) (hj : left.length ≤ a + j) : Sts n D2 (Pk D a (ks ++ [left])) := sts_iff h fun L c => ⟨fun q => by
  rcases q with ⟨l, h1, h2⟩ | ⟨s, h1, h2⟩
  · exact ⟨l, List.mem_append_left _ h1, h2⟩
  · exact ⟨left, by simp, s, h2⟩, fun ⟨l, h1, s, h2⟩ => by
  rcases List.mem_append.mp h1 with z | z
  · exact .inl ⟨l, z, s, h2⟩
  · rw [List.mem_singleton.mp z] at h2
    exact .inr ⟨s, by have := h2.2.1; omega, h2⟩⟩
theorem pk_done {n : Nat} {D D2 : DS} {a : Nat} {R : List Int → Int → Prop} (h : Sts n D R) (h2 : Sts n D2 (Pk D a (D.map (·.1)))) : Sts n D2 (stpR a R) := ⟨fun L' c' q => by
    obtain ⟨left, k1, s, s1, s2, s3, s4, s5⟩ := h2.mem L' c' q
    obtain ⟨v, hv⟩ := gv_some k1
    have e : gD D left = v := by unfold gD; rw [hv]; rfl
    exact ⟨left, v, s, h.mem _ _ hv, s1, s2, s3, s4, by rw [s5, e]⟩, fun L' c' ⟨L, c, s, q1, q2, q3, q4, q5, q6⟩ => by
    obtain ⟨c0, hv, hle⟩ := h.cov L c q1
    have e : gD D L = c0 := by unfold gD; rw [hv]; rfl
    obtain ⟨c1, k1, k2⟩ := h2.cov L' (c0 + (s : Int) - (a : Int)) ⟨L, List.mem_map.mpr ⟨_, gv_mem hv, rfl⟩, s, q2, q3, q4, q5, by rw [e]⟩
    exact ⟨c1, k1, by omega⟩, h2.nd, fun L' c' ⟨L, c, s, q1, q2, q3, q4, q5, q6⟩ => by rw [q5]; exact shp_dc (h.shp L c q1) q3 q4⟩
/-! ### there are few -/
def allL : Nat → List (List Int)
  | 0 => [[]]
  | n + 1 => (allL n).flatMap fun L => [0 :: L, 1 :: L, 2 :: L, 3 :: L, 4 :: L]
theorem allL_len : ∀ n, (allL n).length = 5 ^ n
  | 0 => rfl
  | n + 1 => by
    show ((allL n).flatMap _).length = _
    rw [List.length_flatMap]
    have : ∀ l : List (List Int), (l.map fun L : List Int => ([0 :: L, 1 :: L, 2 :: L, 3 :: L, 4 :: L] : List (List Int)).length).sum = 5 * l.length := fun l => by
      induction l with
      | nil => rfl
      | cons x l ih => rw [List.map_cons, List.sum_cons, ih, show (x :: l).length = l.length + 1 from rfl]; show 5 + 5 * l.length = 5 * (l.length + 1); omega
    rw [this, allL_len n, Nat.pow_succ]; omega
theorem allL_mem : ∀ (n : Nat) (L : List Int), Shp n L → L ∈ allL n
  | 0, L, h => by rw [List.length_eq_zero_iff.mp h.1]; exact List.mem_singleton.mpr rfl
  | n + 1, [], h => by have := h.1; simp at this
  | n + 1, x :: L, h => by
    refine List.mem_flatMap.mpr ⟨L, allL_mem n L ⟨by have := h.1; simpa using this, fun y hy => h.2 y (List.mem_cons_of_mem _ hy)⟩, ?_⟩
    have hx := h.2 x (List.mem_cons_self ..)
    rcases (by omega : x = 0 ∨ x = 1 ∨ x = 2 ∨ x = 3 ∨ x = 4) with rfl | rfl | rfl | rfl | rfl <;> simp
theorem nd_le {α : Type} [DecidableEq α] (l : List α) : ∀ (m : List α), l.Nodup → (∀ x ∈ l, x ∈ m) → l.length ≤ m.length := by
  induction l with
  | nil => intro m _ _; exact Nat.zero_le _
  | cons x l ih =>
    intro m nd h
    have nd2 := List.nodup_cons.mp nd
    have hx := h x (List.mem_cons_self ..)
    have i1 := ih (m.erase x) nd2.2 fun y hy => (List.mem_erase_of_ne (fun e => nd2.1 (by rw [← e]; exact hy))).mpr (h y (List.mem_cons_of_mem _ hy))
    rw [List.length_erase_of_mem hx] at i1
    have h0 : 0 < m.length := List.length_pos_of_mem hx
    have e : (x :: l).length = l.length + 1 := rfl
    omega
theorem Sts.few {n : Nat} {D : DS} {R : List Int → Int → Prop} (h : Sts n D R) (hn : n ≤ 4) : D.length ≤ 625 := by
  have h1 := nd_le (D.map (·.1)) (allL n) h.nd fun x hx => by
    obtain ⟨v, hv⟩ := gv_some hx
    exact allL_mem n x (h.shp x v (h.mem x v hv))
  rw [List.length_map, allL_len] at h1
  have : 5 ^ n ≤ 5 ^ 4 := Nat.pow_le_pow_right (by decide) hn
  omega
/-- one state with a load less -/
theorem rest_dc {L : List Int} {s : Nat} (hs : s < L.length) : (cutG L none (some (s : Int)) ++ [gI L (s : Int) - 1]) ++ cutG L (some ((s : Int) + 1)) none = dc L s := by
  rw [cutG_to _ _ (by omega), show (s : Int) + 1 = ((s + 1 : Nat) : Int) by omega, cutG_from _ _ (by omega)]
  unfold dc
  rw [List.set_eq_take_append_cons_drop, if_pos hs]; simp
/-! ### the end of it -/
theorem fit_fits {has asks : List Int} (hl : has.length = asks.length) : m_fits has asks = true ↔ Fit has asks := by
  unfold m_fits m_over Fit
  rw [List.all_eq_true]
  constructor
  · intro h j hj
    have := h (decide (0 ≤ (has.drop j).sum - (asks.drop j).sum)) (List.mem_map.mpr ⟨_, List.mem_map.mpr ⟨j, List.mem_range.mpr (by omega), rfl⟩, rfl⟩)
    have := of_decide_eq_true this
    omega
  · intro h b hb
    obtain ⟨n, hn, rfl⟩ := List.mem_map.mp hb
    obtain ⟨j, hj, rfl⟩ := List.mem_map.mp hn
    have := h j (by have := List.mem_range.mp hj; omega)
    exact decide_eq_true (by omega)
def m_least (has asks : List Int) : Option Int := if m_fits has asks = true then some (m_raised (m_allotted has asks)) else none
theorem raised_perm {A B : List (Int × Int × Int)} (h : A.Perm B) : m_raised A = m_raised B := perm_sum (h.map _)
theorem least_is {has asks : List Int} {n : Nat} {D : DS} (hl : has.length = asks.length) (hh : ∀ x ∈ has, 0 ≤ x) (ha : ∀ x ∈ asks, 0 ≤ x) (h : Sts n D (Rf (fun L c => L = has ∧ c = 0) (sq asks asks.length))) :
    (if decide (0 < (D.length : Int)) = true then some (lmin ((D.map (·.1)).map fun k => gD D k)) else none) = m_least has asks := by
  have nn : Nn has := fun i hi => hh _ (gI_mem (by omega))
  unfold m_least
  by_cases hf : m_fits has asks = true
  · have hF := (fit_fits hl).mp hf
    have hg := gw_als hl hh ha hF asks.length (Nat.le_refl _)
    have hw := gw_way _ _ _ hg
    obtain ⟨L', hr⟩ := way_rf _ (fun L c => L = has ∧ c = 0) has 0 _ ⟨rfl, rfl⟩ hw
    obtain ⟨c', k1, k2⟩ := h.cov _ _ hr
    have hp : 0 < D.length := List.length_pos_of_mem (gv_mem k1)
    rw [if_pos hf, if_pos (decide_eq_true (by omega))]
    congr 1
    have hm : m_raised (m_allotted has asks) = m_raised (alS has asks asks.length).2 := raised_perm (srtD_perm _ _)
    rw [hm]
    refine Int.le_antisymm ?_ ?_
    · have := lmin_le (ns := (D.map (·.1)).map fun k => gD D k) c' (List.mem_map.mpr ⟨L', List.mem_map.mpr ⟨_, gv_mem k1, rfl⟩, gD_some k1⟩)
      have k2' : c' ≤ 0 + m_raised (alS has asks asks.length).2 := k2
      omega
    · have hmem := lmin_mem (ns := (D.map (·.1)).map fun k => gD D k) (by rw [List.length_map, List.length_map]; exact hp)
      obtain ⟨k, hk, hk2⟩ := List.mem_map.mp hmem
      obtain ⟨v, hv⟩ := gv_some hk
      rw [← hk2, gD_some hv]
      obtain ⟨L, c, w, ⟨rfl, rfl⟩, q1, q2⟩ := rf_way _ _ _ _ (h.mem _ _ hv)
      obtain ⟨r, r1, r2⟩ := gw_best _ _ _ nn (sq_desc asks asks.length (Nat.le_refl _)).1 q1
      rw [hg] at r1
      have e : r.2 = m_raised (alS L asks asks.length).2 := by rw [← Option.some.inj r1]
      omega
  · rw [if_neg hf]
    have : D = [] := by
      cases hD : D with
      | nil => rfl
      | cons p r =>
        exfalso
        have hv : gv D p.1 = some p.2 := by rw [hD]; show (if p.1 = p.1 then some p.2 else _) = _; rw [if_pos rfl]
        obtain ⟨L, c, w, ⟨rfl, rfl⟩, q1, q2⟩ := rf_way _ _ _ _ (h.mem _ _ hv)
        exact hf ((fit_fits hl).mpr (way_fit hl nn ha q1))
    subst this
    rfl
end GP

namespace GP
open PySem PySem.Spec PyProof.Rows L2 G
/-! ### what is left -/
abbrev Tr : Type := Int × Int × Int
def kp (F : List Tr) (L : List Int) : List Int := F.foldl (fun f r => setI f r.1 (gI f r.1 - r.2.2)) L
def m_kept (has asks : List Int) : List Int := kp (m_allotted has asks) has
theorem kp_len : ∀ (F : List Tr) (L : List Int), (kp F L).length = L.length
  | [], _ => rfl
  | r :: F, L => by show (kp F (setI L r.1 _)).length = _; rw [kp_len F, setI_len]
theorem gI_setI {L : List Int} {s : Int} (h0 : 0 ≤ s) (h1 : s < (L.length : Int)) (v : Int) (k : Nat) : gI (setI L s v) (k : Int) = if (k : Int) = s then v else gI L (k : Int) := by
  obtain ⟨n, rfl⟩ : ∃ n : Nat, s = (n : Int) := ⟨s.toNat, by omega⟩
  unfold setI
  rw [if_neg (by omega), Int.toNat_natCast, gI_set L n k v (by omega)]
  by_cases q : k = n
  · rw [if_pos q, if_pos (by omega)]
  · rw [if_neg q, if_neg (by omega)]
theorem kp_at : ∀ (F : List Tr) (L : List Int) (k : Nat), (∀ r ∈ F, 0 ≤ r.1 ∧ r.1 < (L.length : Int)) → gI (kp F L) (k : Int) = gI L (k : Int) - ((F.filter fun r => decide (r.1 = (k : Int))).map fun r => r.2.2).sum
  | [], L, k, _ => by show gI L (k : Int) = _ - (0 : Int); omega
  | r :: F, L, k, h => by
    have hr := h r (List.mem_cons_self ..)
    have ih := kp_at F (setI L r.1 (gI L r.1 - r.2.2)) k (fun x hx => by rw [setI_len]; exact h x (List.mem_cons_of_mem _ hx))
    show gI (kp F (setI L r.1 (gI L r.1 - r.2.2))) (k : Int) = _
    rw [ih, gI_setI hr.1 hr.2, List.filter_cons]
    by_cases q : r.1 = (k : Int)
    · rw [if_pos q.symm, if_pos (decide_eq_true q), List.map_cons, List.sum_cons, q]; omega
    · rw [if_neg (fun z => q z.symm), if_neg (by simpa using q)]
theorem kept_is {has asks : List Int} {n : Nat} (hn : n = has.length) (hr : ∀ r ∈ m_allotted has asks, 0 ≤ r.1 ∧ r.1 < (has.length : Int)) : ((List.range n).map fun k : Nat => gI has (k : Int) - (((m_allotted has asks).filter fun r : Tr => decide (r.1 = (k : Int))).map fun r : Tr => r.2.2).sum) = m_kept has asks := by
  refine ext_gI (by rw [List.length_map, List.length_range]; unfold m_kept; rw [kp_len]; exact hn) fun i hi => ?_
  rw [List.length_map, List.length_range] at hi
  unfold m_kept
  rw [kp_at _ _ _ hr, gI_nat, getElem!_pos _ i (by rw [List.length_map, List.length_range]; exact hi), List.getElem_map, List.getElem_range]
/-! ### the most asked of one sort -/
def m_most (has asks : List Int) (s : Int) : Option Int := if decide (lmin (m_over has (setI asks s 0)) < 0) = true then none else some (lmin (cutG (m_over has (setI asks s 0)) none (some (s + 1))))
theorem sum_set : ∀ (L : List Int) (s k : Nat) (v : Int), s < L.length → ((L.set s v).drop k).sum = ((L.set s 0).drop k).sum + (if k ≤ s then v else 0)
  | [], _, _, _, h => by simp at h
  | l :: L, 0, 0, v, _ => by rw [List.set_cons_zero, List.set_cons_zero]; simp; omega
  | l :: L, 0, k + 1, v, _ => by rw [List.set_cons_zero, List.set_cons_zero, List.drop_succ_cons, List.drop_succ_cons, if_neg (by omega)]; omega
  | l :: L, s + 1, 0, v, h => by
    have := sum_set L s 0 v (by simpa using h)
    rw [List.set_cons_succ, List.set_cons_succ]
    simp only [List.drop_zero, List.sum_cons, Nat.zero_le, if_true] at this ⊢
    omega
  | l :: L, s + 1, k + 1, v, h => by
    rw [List.set_cons_succ, List.set_cons_succ, List.drop_succ_cons, List.drop_succ_cons, sum_set L s k v (by simpa using h)]
    by_cases q : k ≤ s
    · rw [if_pos q, if_pos (by omega)]
    · rw [if_neg q, if_neg (by omega)]
theorem over_set {has asks : List Int} {s : Nat} (hs : s < asks.length) (v : Int) {k : Nat} (hk : k < has.length) : gI (m_over has (setI asks (s : Int) v)) (k : Int) = gI (m_over has (setI asks (s : Int) 0)) (k : Int) - (if k ≤ s then v else 0) := by
  unfold setI
  rw [if_neg (by omega), if_neg (by omega), Int.toNat_natCast, over_at _ _ hk, over_at _ _ hk, sum_set asks s k v hs]; omega
theorem most_none {has asks : List Int} {s : Int} (h : m_most has asks s = none) : lmin (m_over has (setI asks s 0)) < 0 := by
  unfold m_most at h
  by_cases q : lmin (m_over has (setI asks s 0)) < 0
  · exact q
  · rw [if_neg (by simpa using q)] at h; cases h
theorem most_some {has asks : List Int} {s : Nat} {m : Int} (hl : has.length = asks.length) (hs : s < asks.length) (h : m_most has asks (s : Int) = some m) : 0 ≤ m ∧ 0 ≤ lmin (m_over has (setI asks (s : Int) m)) ∧ lmin (m_over has (setI asks (s : Int) (m + 1))) < 0 := by
  unfold m_most at h
  by_cases q : lmin (m_over has (setI asks (s : Int) 0)) < 0
  · rw [if_pos (decide_eq_true q)] at h; cases h
  rw [if_neg (by simpa using q)] at h
  have hm := Option.some.inj h
  obtain ⟨rows, hrows⟩ : ∃ z, m_over has (setI asks (s : Int) 0) = z := ⟨_, rfl⟩
  have hrl : rows.length = has.length := by rw [← hrows]; exact over_len _ _
  rw [hrows] at hm q
  rw [show (s : Int) + 1 = ((s + 1 : Nat) : Int) by omega, cutG_to _ _ (by omega)] at hm
  have hpos : 0 < (rows.take (s + 1)).length := by rw [List.length_take]; omega
  have hmem := lmin_mem hpos
  rw [hm] at hmem
  have hle := fun y hy => lmin_le (ns := rows.take (s + 1)) y hy
  rw [hm] at hle
  have hall : ∀ y ∈ rows, 0 ≤ y := fun y hy => by have := lmin_le (ns := rows) y hy; omega
  refine ⟨hall m (List.mem_of_mem_take hmem), ?_, ?_⟩
  · have h1 := lmin_mem (ns := m_over has (setI asks (s : Int) m)) (by rw [over_len]; omega)
    obtain ⟨k, hk, e⟩ := List.mem_iff_getElem.mp h1
    have hk' : k < has.length := by rw [over_len] at hk; exact hk
    have e2 := over_set (has := has) hs m hk'
    rw [hrows, gI_nat, getElem!_pos _ k hk, e] at e2
    rw [e2]
    by_cases z : k ≤ s
    · rw [if_pos z]
      have := hle (gI rows (k : Int)) (by rw [gI_nat, getElem!_pos rows k (by omega)]; exact List.mem_take_iff_getElem.mpr ⟨k, by omega, rfl⟩)
      omega
    · rw [if_neg z]
      have := hall (gI rows (k : Int)) (gI_mem (by omega))
      omega
  · obtain ⟨k, hk, e⟩ := List.mem_iff_getElem.mp hmem
    rw [List.length_take] at hk
    rw [List.getElem_take] at e
    have e2 := over_set (has := has) hs (m + 1) (show k < has.length by omega)
    rw [hrows, if_pos (by omega), show gI rows (k : Int) = m by rw [gI_nat, getElem!_pos rows k (by omega)]; exact e] at e2
    have := lmin_le (ns := m_over has (setI asks (s : Int) (m + 1))) (gI (m_over has (setI asks (s : Int) (m + 1))) (k : Int)) (gI_mem (by rw [over_len]; omega))
    omega
/-! ### mixed -/
def m_mixed (has : List Int) (lo hi n : Int) : List Int := setI (setI has hi (gI has hi - n)) lo (gI (setI has hi (gI has hi - n)) lo + n)
end GP

namespace GP
open PySem PySem.Spec PyProof.Rows L2 G
/-! ### better, steps -/
def m_is_better (a b : List Int) : Bool := decide (a.sum = b.sum) && ((List.range a.length).map fun k : Nat => decide ((a.drop k).sum ≤ (b.drop k).sum)).all fun b => b
def dif (a b : List Int) (s : Int) : Int := (b.drop s.toNat).sum - (a.drop s.toNat).sum
def stl (a b : List Int) (k : Nat) : List (Int × Int) := ((rgDn ((a.length : Int) - 1) 0).take k).foldl (fun f s => if 0 < dif a b s then f ++ [(s, dif a b s)] else f) []
def m_steps (a b : List Int) : List (Int × Int) := stl a b (a.length - 1)
theorem stl_succ (a b : List Int) {k : Nat} (h : k + 1 < a.length) : stl a b (k + 1) = if 0 < dif a b ((a.length : Int) - 1 - (k : Int)) then stl a b k ++ [((a.length : Int) - 1 - (k : Int), dif a b ((a.length : Int) - 1 - (k : Int)))] else stl a b k := by
  unfold stl
  rw [List.take_succ, rgDn_get (by omega), List.foldl_append]; rfl
theorem stl_len (a b : List Int) : ∀ k, k + 1 ≤ a.length → (stl a b k).length ≤ k
  | 0, _ => Nat.le_refl _
  | k + 1, h => by
    have ih := stl_len a b k (by omega)
    rw [stl_succ a b (by omega)]
    split
    · rw [List.length_append]; simp; omega
    · omega
theorem better_iff {a b : List Int} : m_is_better a b = true ↔ a.sum = b.sum ∧ ∀ k : Nat, k < a.length → (a.drop k).sum ≤ (b.drop k).sum := by
  unfold m_is_better
  rw [Bool.and_eq_true, decide_eq_true_eq, List.all_eq_true]
  refine and_congr Iff.rfl ⟨fun h k hk => of_decide_eq_true (h _ (List.mem_map.mpr ⟨k, List.mem_range.mpr hk, rfl⟩)), fun h x hx => ?_⟩
  obtain ⟨k, hk, rfl⟩ := List.mem_map.mp hx
  exact decide_eq_true (h k (List.mem_range.mp hk))
/-! ### _law_lowered -/
def m__law_lowered (a b : List Int) : Option (List (Int × Int)) := if m_is_better a b = true then some (m_steps a b) else none
structure Low (a b : List Int) (k : Nat) (left : List Int) (found : List (Int × Int)) : Prop where
  len : left.length = a.length
  up : ∀ j : Nat, j < a.length → a.length - 1 - k < j → gI left (j : Int) = gI a (j : Int)
  lo : ∀ j : Nat, j < a.length - 1 - k → gI left (j : Int) = gI b (j : Int)
  here : gI left ((a.length - 1 - k : Nat) : Int) = (b.drop (a.length - 1 - k)).sum - (a.drop (a.length - k)).sum
  ok : ∀ j : Nat, j < a.length → a.length - 1 - k < j → (a.drop j).sum ≤ (b.drop j).sum
  fnd : found = stl a b k
theorem low_zero {a b : List Int} (hl : a.length = b.length) (hp : 0 < a.length) : Low a b 0 b [] := ⟨hl.symm, fun j h1 h2 => by omega, fun j _ => rfl, by
  rw [List.drop_of_length_le (l := a) (by omega), drop_at (xs := b) (k := a.length - 1 - 0) (by omega), List.drop_of_length_le (l := b) (by omega)]; simp, fun j h1 h2 => by omega, rfl⟩
theorem low_more {a b left : List Int} {k : Nat} {found : List (Int × Int)} (hl : a.length = b.length) (h : Low a b k left found) (hk : k + 1 < a.length) : gI left ((a.length : Int) - 1 - (k : Int)) - gI a ((a.length : Int) - 1 - (k : Int)) = dif a b ((a.length : Int) - 1 - (k : Int)) := by
  have e : ((a.length : Int) - 1 - (k : Int)) = ((a.length - 1 - k : Nat) : Int) := by omega
  rw [e, h.here]
  unfold dif
  rw [Int.toNat_natCast, drop_at (xs := a) (k := a.length - 1 - k) (by omega), show a.length - 1 - k + 1 = a.length - k by omega]; omega
theorem low_no {a b : List Int} {k : Nat} (hk : k + 1 < a.length) (hd : dif a b ((a.length : Int) - 1 - (k : Int)) < 0) : m_is_better a b = false := by
  rw [← Bool.not_eq_true, better_iff]
  rintro ⟨_, h⟩
  have := h (a.length - 1 - k) (by omega)
  unfold dif at hd
  rw [show ((a.length : Int) - 1 - (k : Int)).toNat = a.length - 1 - k by omega] at hd
  omega
theorem low_next {a b left : List Int} {k : Nat} {found : List (Int × Int)} (hl : a.length = b.length) (h : Low a b k left found) (hk : k + 1 < a.length) (hd : ¬ dif a b ((a.length : Int) - 1 - (k : Int)) < 0) :
    Low a b (k + 1) (setI (setI left ((a.length : Int) - 1 - (k : Int)) (gI a ((a.length : Int) - 1 - (k : Int)))) ((a.length : Int) - 1 - (k : Int) - 1) (gI (setI left ((a.length : Int) - 1 - (k : Int)) (gI a ((a.length : Int) - 1 - (k : Int)))) ((a.length : Int) - 1 - (k : Int) - 1) + dif a b ((a.length : Int) - 1 - (k : Int)))) (stl a b (k + 1)) := by
  obtain ⟨s, hs⟩ : ∃ s : Nat, s = a.length - 1 - k := ⟨_, rfl⟩
  have e : ((a.length : Int) - 1 - (k : Int)) = (s : Int) := by omega
  have e1 : (s : Int) - 1 = ((s - 1 : Nat) : Int) := by omega
  have e2 : a.length - 1 - (k + 1) = s - 1 := by omega
  rw [e, e1]
  rw [e] at hd
  have ll := h.len
  have g1 := fun j => gI_setI (L := left) (s := (s : Int)) (by omega) (by omega) (gI a (s : Int)) j
  have g2 := fun j => gI_setI (L := setI left (s : Int) (gI a (s : Int))) (s := ((s - 1 : Nat) : Int)) (by omega) (by rw [setI_len]; omega) (gI (setI left (s : Int) (gI a (s : Int))) ((s - 1 : Nat) : Int) + dif a b (s : Int)) j
  have hup := h.up
  have hlo := h.lo
  have hok := h.ok
  rw [← hs] at hup hlo hok
  have dd : dif a b (s : Int) = (b.drop s).sum - (a.drop s).sum := by unfold dif; rw [Int.toNat_natCast]
  refine ⟨by rw [setI_len, setI_len]; exact ll, fun j h1 h2 => ?_, fun j h1 => ?_, ?_, fun j h1 h2 => ?_, rfl⟩
  · rw [e2] at h2
    rw [g2, if_neg (by omega), g1]
    by_cases z : j = s
    · rw [if_pos (by omega), z]
    · rw [if_neg (by omega)]; exact hup j h1 (by omega)
  · rw [e2] at h1
    rw [g2, if_neg (by omega), g1, if_neg (by omega)]; exact hlo j (by omega)
  · rw [e2, g2, if_pos rfl, g1, if_neg (by omega), hlo (s - 1) (by omega), dd, show a.length - (k + 1) = s by omega, drop_at (xs := b) (k := s - 1) (by omega), show s - 1 + 1 = s by omega]; omega
  · rw [e2] at h2
    by_cases z : j = s
    · rw [z]; omega
    · exact hok j h1 (by omega)
theorem low_end {a b left : List Int} {found : List (Int × Int)} (hl : a.length = b.length) (hp : 0 < a.length) (h : Low a b (a.length - 1) left found) : (if decide (left = a) = true then some found else none) = m__law_lowered a b := by
  have e : a.length - 1 - (a.length - 1) = 0 := by omega
  have h1 := h.here
  rw [e, show a.length - (a.length - 1) = 1 by omega] at h1
  have d1 := drop_at (xs := a) (k := 0) hp
  rw [List.drop_zero] at d1
  have hup := h.up
  have hok := h.ok
  rw [e] at hup hok
  have key : left = a ↔ a.sum = b.sum := by
    constructor
    · intro q
      rw [q] at h1
      have : gI a ((0 : Nat) : Int) = b.sum - (a.drop 1).sum := h1
      rw [show (0 + 1 : Nat) = 1 from rfl] at d1
      omega
    · intro q
      refine ext_gI h.len fun j hj => ?_
      rw [h.len] at hj
      by_cases z : j = 0
      · subst z
        rw [h1]
        rw [show (0 + 1 : Nat) = 1 from rfl] at d1
        rw [List.drop_zero]; omega
      · exact hup j hj (by omega)
  unfold m__law_lowered
  by_cases q : left = a
  · have hb : m_is_better a b = true := better_iff.mpr ⟨key.mp q, fun k hk => by
      by_cases z : k = 0
      · subst z; rw [List.drop_zero, List.drop_zero]; have := key.mp q; omega
      · exact hok k hk (by omega)⟩
    rw [if_pos (decide_eq_true q), if_pos hb, h.fnd]; rfl
  · rw [if_neg (by simpa using q), if_neg (fun hb => q (key.mpr (better_iff.mp hb).1))]
end GP

namespace GP
open PySem PySem.Spec PyProof.Rows L2 G
/-! ### what the law's own def wants -/
def AmC (c n : Int) (xs : List Int) : Prop := (xs.length : Int) = n ∧ ∀ x ∈ xs, 0 ≤ x ∧ x ≤ c
theorem amc_min {c n : Int} {xs : List Int} (hc : 0 ≤ c) (h : AmL n xs) : AmC c n (xs.map fun a => min c a) := ⟨by rw [List.length_map]; exact h.1, fun x hx => by
  obtain ⟨a, ha, rfl⟩ := List.mem_map.mp hx
  have := h.2 a ha
  omega⟩
theorem AmC.aml {c n : Int} {xs : List Int} (h : AmC c n xs) (hc : c ≤ 7) : AmL n xs := ⟨h.1, fun x hx => by have := h.2 x hx; omega⟩
theorem AmC.shp {n : Int} {xs : List Int} (h : AmC 4 n xs) : Shp xs.length xs := ⟨rfl, h.2⟩
theorem due_ok {has asks : List Int} (hl : has.length = asks.length) (hh : ∀ x ∈ has, 0 ≤ x) (ha : ∀ x ∈ asks, 0 ≤ x) : ∀ r ∈ m_allotted has asks, 0 ≤ r.2.1 ∧ r.2.1 ≤ r.1 ∧ r.1 < (has.length : Int) := fun r hr =>
  ((due_well hl hh ha).row (r.1, r.2.1, some r.2.2) (List.mem_map.mpr ⟨r, hr, rfl⟩)).1
theorem fits_min {has asks : List Int} (h0 : 0 < has.length) : m_fits has asks = !decide (lmin (m_over has asks) < 0) := by
  have hl : 0 < (m_over has asks).length := by rw [over_len]; exact h0
  unfold m_fits
  by_cases q : lmin (m_over has asks) < 0
  · rw [decide_eq_true q, Bool.not_true, ← Bool.not_eq_true, List.all_eq_true]
    intro h
    have := of_decide_eq_true (h _ (List.mem_map.mpr ⟨_, lmin_mem hl, rfl⟩))
    omega
  · rw [decide_eq_false q, Bool.not_false, List.all_eq_true]
    intro b hb
    obtain ⟨n, hn, rfl⟩ := List.mem_map.mp hb
    have := lmin_le (ns := m_over has asks) n hn
    exact decide_eq_true (by omega)
theorem trial_is {xs : List Int} {s : Nat} (h : s < xs.length) : (cutG xs none (some (s : Int)) ++ [0]) ++ cutG xs (some ((s : Int) + 1)) none = setI xs (s : Int) 0 := by
  rw [cutG_to _ _ (by omega), show (s : Int) + 1 = ((s + 1 : Nat) : Int) by omega, cutG_from _ _ (by omega)]
  unfold setI
  rw [if_neg (by omega), Int.toNat_natCast, List.set_eq_take_append_cons_drop, if_pos h]; simp
theorem setI_twice {xs : List Int} (s v u : Int) (h : 0 ≤ s) : setI (setI xs s v) s u = setI xs s u := by
  unfold setI
  rw [if_neg (by omega), if_neg (by omega), if_neg (by omega), List.set_set]
theorem setI_mem {xs : List Int} {s v : Int} (h : 0 ≤ s) : ∀ x ∈ setI xs s v, x ∈ xs ∨ x = v := fun x hx => by
  unfold setI at hx
  rw [if_neg (by omega)] at hx
  exact List.mem_or_eq_of_mem_set hx
/-- a list on its way -/
def Oth (n : Int) (i : Nat) (xs : List Int) : Prop := (xs.length : Int) = n ∧ ∀ x ∈ xs, 0 ≤ x ∧ x ≤ 7 + (i : Int)
theorem oth_zero {n : Int} {xs : List Int} (h : AmL n xs) : Oth n 0 xs := ⟨h.1, fun x hx => by have := h.2 x hx; omega⟩
theorem oth_skip {n : Int} {i : Nat} {xs : List Int} (h : Oth n i xs) : Oth n (i + 1) xs := ⟨h.1, fun x hx => by have := h.2 x hx; omega⟩
theorem oth_step {n : Int} {i : Nat} {xs : List Int} (h : Oth n i xs) {a b : Int} (ha : 0 ≤ a ∧ a < n) (hb : 0 ≤ b ∧ b < n) (hp : 0 < gI xs a) : Oth n (i + 1) (setI (setI xs a (gI xs a - 1)) b (gI (setI xs a (gI xs a - 1)) b + 1)) := by
  have h1 : ∀ x ∈ setI xs a (gI xs a - 1), 0 ≤ x ∧ x ≤ 7 + (i : Int) := fun x hx => by
    rcases setI_mem ha.1 x hx with z | z
    · exact h.2 x z
    · have := h.2 _ (gI_mem (xs := xs) (i := a) (by have := h.1; omega)); omega
  refine ⟨by rw [setI_len, setI_len]; exact h.1, fun x hx => ?_⟩
  rcases setI_mem hb.1 x hx with z | z
  · have := h1 x z; omega
  · have := h1 _ (gI_mem (xs := setI xs a (gI xs a - 1)) (i := b) (by rw [setI_len]; have := h.1; omega)); omega
theorem Oth.am {n : Int} {i : Nat} {xs : List Int} (h : Oth n i xs) (hn : n ≤ 40) (hi : i ≤ 1000) : Am xs := ⟨by have := h.1; omega, fun x hx => by have := h.2 x hx; omega⟩
theorem to79 {t a n v : Int} (h : t ∈ ([a, min (n - 1) (a + 1), v] : List Int)) (ha : 0 ≤ a ∧ a < n) (hv : 0 ≤ v ∧ v < n) : 0 ≤ t ∧ t < n := by
  simp only [List.mem_cons, List.not_mem_nil, or_false] at h
  rcases h with rfl | rfl | rfl <;> omega
theorem bad79p {d : PyData} {n : Int} {l : Nat} (hn : (l : Int) = n) (h : d ∈ ([PyData.int (-1), PyData.int n, PyData.bool true] : List PyData)) : isDct d = false ∧ isNum d 0 ((l : Int) - 1) = false := by
  simp only [List.mem_cons, List.not_mem_nil, or_false] at h
  rcases h with rfl | rfl | rfl
  · exact ⟨rfl, by rw [isNum_int]; simp⟩
  · exact ⟨rfl, by rw [isNum_int]; simp; omega⟩
  · exact ⟨rfl, rfl⟩
theorem low_some {a b : List Int} {t : Option (List (Int × Int))} (h : m__law_lowered a b = t) : m_is_better a b = t.isSome := by
  subst h
  unfold m__law_lowered
  by_cases q : m_is_better a b = true
  · rw [if_pos q, q]; rfl
  · rw [if_neg q]; simpa using q
theorem low_none {a b : List Int} {t : Option (List (Int × Int))} (h : m__law_lowered a b = t) (n : t.isNone = true) : m_is_better a b = false := by
  rw [low_some h]
  cases t with
  | none => rfl
  | some x => cases n
theorem low_get {a b : List Int} {t : Option (List (Int × Int))} (h : m__law_lowered a b = t) (n : t.isSome = true) : some (m_steps a b) = t := by
  have hb : m_is_better a b = true := by rw [low_some h]; exact n
  rw [← h]
  unfold m__law_lowered
  rw [if_pos hb]
end GP

namespace GP
open PySem PySem.Spec PyProof.Rows L2 G
section
variable {P : Program} {w : World} {K : PySem.W.Frag} {mg : Str → Option Value} {base : Heap}

def S_checked_amounts (ds : List PyData) (r : Res) : Prop := ∃ (amounts_ : (List Int)), ds = [((dL PyData.int) amounts_)] ∧ (Am amounts_) ∧ r = .own (.l (amounts_.map PyData.int))
theorem f_checked_amounts (Y : Py P K mg) {fd : FuncData} (F : FunD K "checked_amounts" "checked_amounts" (defArgs s_checked_amounts) (defBody s_checked_amounts) (defScope s_checked_amounts) [] [] (He.ga K "checked_amounts") fd) : FnOk P w K mg base (L2N.CX P w) 3 (He.ga K "checked_amounts") fd [("amounts" : Str)] (spD K S_checked_amounts) := by
  refine fn_DD F sc_checked_amounts (fun ds r h => by obtain ⟨_, rfl, _⟩ := h; rfl) (by decide) (fun cdv A outer s H E hr ds r h => ?_)
  obtain ⟨amounts_, rfl, pre, rfl⟩ := h
  refine bd_env (ρ' := [.d ((dL PyData.int) amounts_), .un]) rfl ?_
  have pl := pre.len
  -- hk1: if len(amounts) > MOST
  refine bd_guard (k := false) (td_cast (k := (decide (40 < (amounts_.length : Int)))) (by exact decide_eq_false (by omega)) (td_gt (pd_lenD (f := PyData.int) (ns := amounts_) Y.z_len (pd_var 0 rfl)) (pd_gint (Y.i_MOST).choose_spec))) (fun h => nomatch h) (fun _ => ?_)
  exact bd_one (sd_retO (pn_lc (lcN amounts_ PyData.int PyData.int (fun (a2 : Int) => a2) (blkOk_by (own := [("amount", 1)]) (show blkC n_checked_amounts (defScope s_checked_amounts) _ _ = true by decide +kernel)) (id_listD (f := PyData.int) (ns := amounts_) (pd_var 0 rfl)) (/- side 3 -/ by omega) (by intro _ h; cases h) (by trivial) (fun a2 ha => ⟨_, _, (fun Z hZ => by obtain ⟨s1, H1, C1, cl1, fp1, rfl⟩ := hZ; exact (gv_name 1 (by decide) sc_checked_amounts.nd)), (fun Z hZ => by obtain ⟨s1, H1, C1, cl1, fp1, rfl⟩ := hZ; exact (pd_call (c_checked_number_1 Y) hr (.int (.int .nil)) (ad_cons (pd_var 1 rfl) ad_nil) ⟨(PyData.int a2), 0, 1000000, rfl, ⟨rfl, (/- side 0 -/ by first | exact sml_of (by omega) (by omega) | decide), (/- side 1 -/ by first | exact sml_of (by omega) (by omega) | decide)⟩, chk_ok (/- side 2 -/ by have h9 := pre.bd _ ha; omega)⟩)), (by repeat (first | exact Le.nil | apply Le.eq | apply Le.un)), (by repeat (first | exact Le.nil | apply Le.eq | apply Le.un))⟩)) sc_checked_amounts.nd) (by show Ct.l _ = Ct.l _; exact congrArg (fun z : (List Int) => Ct.l (z.map PyData.int)) (show ((amounts_.map (fun (a2 : Int) => a2)) : (List Int)) = amounts_ by exact List.map_id' _)))
theorem c_checked_amounts (Y : Py P K mg) : Cal P w K mg base 3 "checked_amounts" (spD K S_checked_amounts) [] := by
  obtain ⟨fd, F⟩ := Y.d_checked_amounts
  exact ⟨_, fd, _, [], f_checked_amounts Y F, Y.g_checked_amounts, F.kp, F.bindsN (ps := [("amounts" : Str)]) fun _ _ _ _ _ _ us hl => match us, hl with | [_], _ => rfl, .nil⟩
end
end GP
namespace GP
open PySem PySem.Spec PyProof.Rows L2 G
section
variable {P : Program} {w : World} {K : PySem.W.Frag} {mg : Str → Option Value} {base : Heap}
def S_checked_pair (ds : List PyData) (r : Res) : Prop := ∃ (h a : List Int), ds = [dL PyData.int h, dL PyData.int a] ∧ (Am h ∧ Am a ∧ h.length = a.length) ∧ (r = .own2 (.l (h.map PyData.int)) (.l (a.map PyData.int)) ∨ r = .ret (.tuple [dL PyData.int h, dL PyData.int a]))
theorem f_checked_pair (Y : Py P K mg) {fd : FuncData} (F : FunD K "checked_pair" "checked_pair" (defArgs s_checked_pair) (defBody s_checked_pair) (defScope s_checked_pair) [] [] (He.ga K "checked_pair") fd) : FnOk P w K mg base (L2N.CX P w) 4 (He.ga K "checked_pair") fd [("has" : Str), ("asks" : Str)] (spD K S_checked_pair) := by
  refine fn_DD F sc_checked_pair (fun ds r h => by obtain ⟨_, _, rfl, _⟩ := h; rfl) (by decide) (fun cdv A outer s H E hr ds r h => ?_)
  obtain ⟨h, a, rfl, ⟨ph, pa, pl⟩, hR⟩ := h
  refine bd_env (ρ' := [.d (dL PyData.int h), .d (dL PyData.int a), .un, .un]) rfl ?_
  refine bd_seq (sd_setN 2 (pn_call (c_checked_amounts Y) hr .nil (ad_cons (pd_var 0 rfl) ad_nil) ⟨h, rfl, ph, rfl⟩) rfl sc_checked_pair.nd) ?_
  refine bd_seq (sd_setN 3 (pn_call (c_checked_amounts Y) hr .nil (ad_cons (pd_var 1 rfl) ad_nil) ⟨a, rfl, pa, rfl⟩) rfl sc_checked_pair.nd) ?_
  refine bd_env (ρ' := [.d (dL PyData.int h), .d (dL PyData.int a), .ol (h.map PyData.int), .ol (a.map PyData.int)]) rfl ?_
  refine bd_guard (k := false) (td_cast (k := !decide ((h.length : Int) = (a.length : Int))) (by rw [pl]; simp) (td_neI (pd_lenO (f := PyData.int) (ns := h) 2 Y.z_len rfl) (pd_lenO (f := PyData.int) (ns := a) 3 Y.z_len rfl))) (fun h => nomatch h) (fun _ => ?_)
  rcases hR with rfl | rfl
  · exact bd_one (sd_retQ 2 3 rfl rfl (by decide) ⟨rfl, rfl⟩)
  · exact bd_one (sd_ret (pd_tup (ad_cons (pd_thaw 2 rfl) (ad_cons (pd_thaw 3 rfl) ad_nil))) rfl)
theorem c_checked_pair (Y : Py P K mg) : Cal P w K mg base 4 "checked_pair" (spD K S_checked_pair) [] := by
  obtain ⟨fd, F⟩ := Y.d_checked_pair
  exact ⟨_, fd, _, [], f_checked_pair Y F, Y.g_checked_pair, F.kp, F.bindsN (ps := [("has" : Str), ("asks" : Str)]) fun _ _ _ _ _ _ us hl => match us, hl with | [_, _], _ => rfl, .nil⟩
end
end GP

namespace GP
open PySem PySem.Spec PyProof.Rows L2 G
section
variable {P : Program} {w : World} {K : PySem.W.Frag} {mg : Str → Option Value} {base : Heap}

def S_over (ds : List PyData) (r : Res) : Prop := ∃ (has_ : (List Int)) (asks_ : (List Int)), ds = [((dL PyData.int) has_), ((dL PyData.int) asks_)] ∧ (Am has_ ∧ Am asks_ ∧ has_.length = asks_.length) ∧ r = .ret ((dL PyData.int) (m_over has_ asks_))
theorem f_over (Y : Py P K mg) {fd : FuncData} (F : FunD K "over" "over" (defArgs s_over) (defBody s_over) (defScope s_over) [] [] (He.ga K "over") fd) : FnOk P w K mg base (L2N.CX P w) 5 (He.ga K "over") fd [("has" : Str), ("asks" : Str)] (spD K S_over) := by
  refine fn_DD F sc_over (fun ds r h => by obtain ⟨_, _, rfl, _⟩ := h; rfl) (by decide) (fun cdv A outer s H E hr ds r h => ?_)
  obtain ⟨has_, asks_, rfl, pre, rfl⟩ := h
  refine bd_env (ρ' := [.d ((dL PyData.int) has_), .d ((dL PyData.int) asks_), .un, .un, .un]) rfl ?_
  obtain ⟨ph, pa, pl⟩ := pre
  have phl := ph.len
  have pal := pa.len
  refine bd_seq (sd_unpackQ 2 3 (c_checked_pair Y) hr .nil (ad_cons (pd_var 0 rfl) (ad_cons (pd_var 1 rfl) ad_nil)) ⟨has_, asks_, rfl, (/- side 0 -/ by exact ⟨ph, pa, pl⟩), .inl rfl⟩ (by decide) rfl rfl sc_over.nd) ?_
  refine bd_env (ρ' := [.d ((dL PyData.int) has_), .d ((dL PyData.int) asks_), .ol (has_.map PyData.int), .ol (asks_.map PyData.int), .un]) rfl ?_
  refine bd_one (sd_ret (x := ((dL PyData.int) ((List.range (has_.length)).map (fun (a3 : Nat) => ((cutG has_ (some (a3 : Int)) none).sum - (cutG asks_ (some (a3 : Int)) none).sum))))) (pd_n (pn_lc (lcN (List.range (has_.length)) (fun i : Nat => PyData.int (i : Int)) PyData.int (fun (a3 : Nat) => ((cutG has_ (some (a3 : Int)) none).sum - (cutG asks_ (some (a3 : Int)) none).sum)) (blkOk_by (own := [("sort", 4)]) (show blkC n_over (defScope s_over) _ _ = true by decide +kernel)) (id_range0 Y.z_range (pd_lenO (f := PyData.int) (ns := has_) 2 Y.z_len rfl) (/- side 1 -/ by first | omega | (simp; omega))) (/- side 2 -/ by rw [List.length_range]; omega) (by intro _ h; cases h) (by trivial) (fun a3 ha => ⟨_, _, (fun Z hZ => by obtain ⟨s1, H1, C1, cl1, fp1, rfl⟩ := hZ; exact (gv_name 4 (by decide) sc_over.nd)), (fun Z hZ => by obtain ⟨s1, H1, C1, cl1, fp1, rfl⟩ := hZ; exact (pd_sub (pd_sumD (ns := (cutG has_ (some (a3 : Int)) none)) rfl Y.z_sum (pd_n (pn_sliceM (f := PyData.int) (ns := has_) (ol := (some (a3 : Int))) (oh := none) (pq_o 2 rfl) (od_some (pd_var 4 rfl)) od_none (srcO rfl)))) (pd_sumD (ns := (cutG asks_ (some (a3 : Int)) none)) rfl Y.z_sum (pd_n (pn_sliceM (f := PyData.int) (ns := asks_) (ol := (some (a3 : Int))) (oh := none) (pq_o 3 rfl) (od_some (pd_var 4 rfl)) od_none (srcO rfl)))))), (by repeat (first | exact Le.nil | apply Le.eq | apply Le.un)), (by repeat (first | exact Le.nil | apply Le.eq | apply Le.un))⟩)) sc_over.nd)) ?_)
  show ((dL PyData.int) ((List.range (has_.length)).map (fun (a3 : Nat) => ((cutG has_ (some (a3 : Int)) none).sum - (cutG asks_ (some (a3 : Int)) none).sum)))) = ((dL PyData.int) (m_over has_ asks_))
  refine congrArg (dL PyData.int) (?_ : (((List.range (has_.length)).map (fun (a3 : Nat) => ((cutG has_ (some (a3 : Int)) none).sum - (cutG asks_ (some (a3 : Int)) none).sum))) : (List Int)) = (m_over has_ asks_))
  exact over_eq pl
theorem c_over (Y : Py P K mg) : Cal P w K mg base 5 "over" (spD K S_over) [] := by
  obtain ⟨fd, F⟩ := Y.d_over
  exact ⟨_, fd, _, [], f_over Y F, Y.g_over, F.kp, F.bindsN (ps := [("has" : Str), ("asks" : Str)]) fun _ _ _ _ _ _ us hl => match us, hl with | [_, _], _ => rfl, .nil⟩
def S_fits (ds : List PyData) (r : Res) : Prop := ∃ (has_ : (List Int)) (asks_ : (List Int)), ds = [((dL PyData.int) has_), ((dL PyData.int) asks_)] ∧ (Am has_ ∧ Am asks_ ∧ has_.length = asks_.length) ∧ r = .ret (PyData.bool (m_fits has_ asks_))
theorem f_fits (Y : Py P K mg) {fd : FuncData} (F : FunD K "fits" "fits" (defArgs s_fits) (defBody s_fits) (defScope s_fits) [] [] (He.ga K "fits") fd) : FnOk P w K mg base (L2N.CX P w) 6 (He.ga K "fits") fd [("has" : Str), ("asks" : Str)] (spD K S_fits) := by
  refine fn_DD F sc_fits (fun ds r h => by obtain ⟨_, _, rfl, _⟩ := h; rfl) (by decide) (fun cdv A outer s H E hr ds r h => ?_)
  obtain ⟨has_, asks_, rfl, pre, rfl⟩ := h
  refine bd_env (ρ' := [.d ((dL PyData.int) has_), .d ((dL PyData.int) asks_), .un]) rfl ?_
  obtain ⟨ph, pa, pl⟩ := pre
  have phl := ph.len
  have pal := pa.len
  refine bd_one (sd_ret (x := (PyData.bool (((m_over has_ asks_).map (fun (a4 : Int) => (decide (0 ≤ a4)))).all (fun b => b)))) (pd_allD (bs := ((m_over has_ asks_).map (fun (a4 : Int) => (decide (0 ≤ a4))))) rfl Y.z_all (pd_n (pn_lc (lcN (m_over has_ asks_) PyData.int PyData.bool (fun (a4 : Int) => (decide (0 ≤ a4))) (blkOk_by (own := [("number", 2)]) (show blkC n_fits (defScope s_fits) _ _ = true by decide +kernel)) (id_listD (f := PyData.int) (ns := (m_over has_ asks_)) (pd_call (c_over Y) hr .nil (ad_cons (pd_var 0 rfl) (ad_cons (pd_var 1 rfl) ad_nil)) ⟨has_, asks_, rfl, (/- side 0 -/ by exact ⟨ph, pa, pl⟩), rfl⟩)) (/- side 1 -/ by rw [show (m_over has_ asks_).length = _ from over_len _ _]; omega) (by intro _ h; cases h) (by trivial) (fun a4 ha => ⟨_, _, (fun Z hZ => by obtain ⟨s1, H1, C1, cl1, fp1, rfl⟩ := hZ; exact (gv_name 2 (by decide) sc_fits.nd)), (fun Z hZ => by obtain ⟨s1, H1, C1, cl1, fp1, rfl⟩ := hZ; exact (pd_ge (pd_var 2 rfl) pd_int)), (by repeat (first | exact Le.nil | apply Le.eq | apply Le.un)), (by repeat (first | exact Le.nil | apply Le.eq | apply Le.un))⟩)) sc_fits.nd))) ?_)
  show (PyData.bool (((m_over has_ asks_).map (fun (a4 : Int) => (decide (0 ≤ a4)))).all (fun b => b))) = (PyData.bool (m_fits has_ asks_))
  refine congrArg PyData.bool (?_ : ((((m_over has_ asks_).map (fun (a4 : Int) => (decide (0 ≤ a4)))).all (fun b => b)) : Bool) = (m_fits has_ asks_))
  rfl
theorem c_fits (Y : Py P K mg) : Cal P w K mg base 6 "fits" (spD K S_fits) [] := by
  obtain ⟨fd, F⟩ := Y.d_fits
  exact ⟨_, fd, _, [], f_fits Y F, Y.g_fits, F.kp, F.bindsN (ps := [("has" : Str), ("asks" : Str)]) fun _ _ _ _ _ _ us hl => match us, hl with | [_, _], _ => rfl, .nil⟩
end
end GP
namespace GP
open PySem PySem.Spec PyProof.Rows L2 G
section
variable {P : Program} {w : World} {K : PySem.W.Frag} {mg : Str → Option Value} {base : Heap}

def S_allotted (ds : List PyData) (r : Res) : Prop := ∃ (has_ : (List Int)) (asks_ : (List Int)), ds = [((dL PyData.int) has_), ((dL PyData.int) asks_)] ∧ (Am has_ ∧ Am asks_ ∧ has_.length = asks_.length) ∧ r = .ret ((dL (dT3 PyData.int PyData.int PyData.int)) (m_allotted has_ asks_))
theorem f_allotted (Y : Py P K mg) {fd : FuncData} (F : FunD K "allotted" "allotted" (defArgs s_allotted) (defBody s_allotted) (defScope s_allotted) [] [] (He.ga K "allotted") fd) : FnOk P w K mg base (L2N.CX P w) 5 (He.ga K "allotted") fd [("has" : Str), ("asks" : Str)] (spD K S_allotted) := by
  refine fn_DD F sc_allotted (fun ds r h => by obtain ⟨_, _, rfl, _⟩ := h; rfl) (by decide) (fun cdv A outer s H E hr ds r h => ?_)
  obtain ⟨has_, asks_, rfl, pre, rfl⟩ := h
  refine bd_env (ρ' := [.d ((dL PyData.int) has_), .d ((dL PyData.int) asks_), .un, .un, .un, .un, .un, .un, .un]) rfl ?_
  obtain ⟨ph, pa, pl⟩ := pre
  have phl := ph.len
  have pal := pa.len
  refine bd_seq (sd_unpackQ 2 3 (c_checked_pair Y) hr .nil (ad_cons (pd_var 0 rfl) (ad_cons (pd_var 1 rfl) ad_nil)) ⟨has_, asks_, rfl, (/- side 0 -/ by exact ⟨ph, pa, pl⟩), .inl rfl⟩ (by decide) rfl rfl sc_allotted.nd) ?_
  refine bd_env (ρ' := [.d ((dL PyData.int) has_), .d ((dL PyData.int) asks_), .ol (has_.map PyData.int), .ol (asks_.map PyData.int), .un, .un, .un, .un, .un]) rfl ?_
  refine bd_seq (sd_setN 4 (pn_lst ad_nil) rfl sc_allotted.nd) ?_
  refine bd_env (ρ' := [.d ((dL PyData.int) has_), .d ((dL PyData.int) asks_), .ol (has_.map PyData.int), .ol (asks_.map PyData.int), .ol ([].map (dT3 PyData.int PyData.int PyData.int)), .un, .un, .un, .un]) rfl ?_
  -- for for asked in range(len(second) - 1, -1, -1):
  refine bd_cut (fun r : En => ∃ (left_5 : (List Int)) (found_6 : (List (Int × Int × Int))), ((left_5, found_6) = alS has_ asks_ (rgDn ((asks_.length : Int) - 1) (-1)).length) ∧ r = [.d ((dL PyData.int) has_), .d ((dL PyData.int) asks_), .ol (left_5.map PyData.int), .ol (asks_.map PyData.int), .ol (found_6.map (dT3 PyData.int PyData.int PyData.int)), .un, .un, .un, .un]) (sd_forM (rgDn ((asks_.length : Int) - 1) (-1)) PyData.int (fun (i5 : Nat) (r : En) => ∃ (left_5 : (List Int)) (found_6 : (List (Int × Int × Int))), ((left_5, found_6) = alS has_ asks_ i5) ∧ r = [.d ((dL PyData.int) has_), .d ((dL PyData.int) asks_), .ol (left_5.map PyData.int), .ol (asks_.map PyData.int), .ol (found_6.map (dT3 PyData.int PyData.int PyData.int)), .un, .un, .un, .un]) (passes_of rfl) rfl (id_rangeDn (m := ((asks_.length : Int) - 1)) (n := (-1)) Y.z_range (pd_sub (pd_lenO (f := PyData.int) (ns := asks_) 3 Y.z_len rfl) pd_int) (pd_neg pd_int) (pd_neg pd_int) (/- side 1 -/ by omega) (/- side 2 -/ by omega) (/- side 3 -/ by omega) (/- side 4 -/ by omega)) ⟨_, (by repeat (first | exact Le.nil | apply Le.eq | apply Le.un)), ⟨has_, [], (by exact rfl), rfl⟩⟩ (fun _ _ _ => trivial) (fun i5 a5 r ha_a5 hI => ?_) (fun r h => h)) ?_
  · obtain ⟨left_5, found_6, hI7, rfl⟩ := hI
    have hm_a5 := List.mem_of_getElem? ha_a5
    refine ⟨_, (gd_name 5 sc_allotted.nd), ?_⟩
    refine bd_env (ρ' := [.d ((dL PyData.int) has_), .d ((dL PyData.int) asks_), .ol (left_5.map PyData.int), .ol (asks_.map PyData.int), .ol (found_6.map (dT3 PyData.int PyData.int PyData.int)), .d (PyData.int a5), .un, .un, .un]) rfl ?_
    have hI7 := hI7
    have hi5 : i5 < asks_.length := by have h9 := (List.getElem?_eq_some_iff.mp ha_a5).1; rw [rgDn_len] at h9; omega
    have hA : a5 = (asks_.length : Int) - 1 - (i5 : Int) := by have h9 := ha_a5; rw [rgDn_get (by omega)] at h9; exact (Option.some.inj h9).symm
    have J := als_is pl (fun x hx => (ph.bd x hx).1) (fun x hx => (pa.bd x hx).1) i5 (by omega)
    rw [← hI7] at J
    have Jl : (left_5).length = has_.length := J.len
    have Jf : (found_6).length ≤ i5 * has_.length := J.few
    have Jm : i5 * has_.length ≤ 40 * 40 := Nat.mul_le_mul (by omega) (by omega)
    obtain ⟨n5, hn5⟩ : ∃ n5 : Nat, a5 = (n5 : Int) := ⟨a5.toNat, by omega⟩
    obtain ⟨l5, hl5⟩ : ∃ z, left_5 = z := ⟨_, rfl⟩
    obtain ⟨f5, hf5⟩ : ∃ z, found_6 = z := ⟨_, rfl⟩
    refine bd_seq (sd_set 6 (pd_gixO (f := PyData.int) (ns := asks_) (i := a5) 3 rfl (pd_var 5 rfl) rfl (/- side 5 -/ by omega)) rfl sc_allotted.nd) ?_
    refine bd_env (ρ' := [.d ((dL PyData.int) has_), .d ((dL PyData.int) asks_), .ol (left_5.map PyData.int), .ol (asks_.map PyData.int), .ol (found_6.map (dT3 PyData.int PyData.int PyData.int)), .d (PyData.int a5), .d (PyData.int (gI asks_ a5)), .un, .un]) rfl ?_
    -- for for sort in range(asked, len(left)):
    refine bd_cut (fun r : En => ∃ (left_8 : (List Int)) (found_9 : (List (Int × Int × Int))) (need_10 : Int), (InP l5 f5 (gI asks_ a5) n5 (List.range (((left_5.length : Int)) - (a5)).toNat).length need_10 left_8 found_9) ∧ r = [.d ((dL PyData.int) has_), .d ((dL PyData.int) asks_), .ol (left_8.map PyData.int), .ol (asks_.map PyData.int), .ol (found_9.map (dT3 PyData.int PyData.int PyData.int)), .d (PyData.int a5), .d (PyData.int need_10), .un, .un]) (sd_forM (List.range (((left_5.length : Int)) - (a5)).toNat) (fun i : Nat => PyData.int (a5 + (i : Int))) (fun (i6 : Nat) (r : En) => ∃ (left_8 : (List Int)) (found_9 : (List (Int × Int × Int))) (need_10 : Int), (InP l5 f5 (gI asks_ a5) n5 i6 need_10 left_8 found_9) ∧ r = [.d ((dL PyData.int) has_), .d ((dL PyData.int) asks_), .ol (left_8.map PyData.int), .ol (asks_.map PyData.int), .ol (found_9.map (dT3 PyData.int PyData.int PyData.int)), .d (PyData.int a5), .d (PyData.int need_10), .un, .un]) (passes_of rfl) rfl (id_rangeM (m := a5) (n := (left_5.length : Int)) Y.z_range (pd_var 5 rfl) (pd_lenO (f := PyData.int) (ns := left_5) 2 Y.z_len rfl) (/- side 6 -/ by omega) (/- side 7 -/ by omega) (/- side 8 -/ by omega) (/- side 9 -/ by omega)) ⟨_, (by repeat (first | exact Le.nil | apply Le.eq | apply Le.un)), ⟨left_5, found_6, (gI asks_ a5), (by rw [hl5, hf5]; exact inp_zero (fun x hx => J.nn x (hl5 ▸ hx)) ((pa.bd _ (gI_mem (by omega))).1)), rfl⟩⟩ (fun _ _ _ => trivial) (fun i6 a11 r ha_a11 hI => ?_) (fun r h => h)) ?_
    · obtain ⟨left_8, found_9, need_10, hI12, rfl⟩ := hI
      obtain ⟨rfl, hi_i6⟩ := range_at ha_a11
      refine ⟨_, (gd_name 7 sc_allotted.nd), ?_⟩
      refine bd_env (ρ' := [.d ((dL PyData.int) has_), .d ((dL PyData.int) asks_), .ol (left_8.map PyData.int), .ol (asks_.map PyData.int), .ol (found_9.map (dT3 PyData.int PyData.int PyData.int)), .d (PyData.int a5), .d (PyData.int need_10), .d (PyData.int (a5 + (i6 : Int))), .un]) rfl ?_
      have hP7 := hI12
      have hi6 := hi_i6
      have hq1 := hP7.len
      have hq2 := hP7.few
      rw [← hl5] at hq1
      rw [← hf5] at hq2
      have hn6 := inp_next hP7 (by rw [← hl5]; omega) _ rfl
      rw [← hn5] at hn6
      refine bd_seq (sd_set 8 (pd_min2 rfl Y.z_min (pd_var 6 rfl) (pd_gixO (f := PyData.int) (ns := left_8) (i := (a5 + (i6 : Int))) 2 rfl (pd_var 7 rfl) rfl (/- side 10 -/ by omega))) rfl sc_allotted.nd) ?_
      refine bd_env (ρ' := [.d ((dL PyData.int) has_), .d ((dL PyData.int) asks_), .ol (left_8.map PyData.int), .ol (asks_.map PyData.int), .ol (found_9.map (dT3 PyData.int PyData.int PyData.int)), .d (PyData.int a5), .d (PyData.int need_10), .d (PyData.int (a5 + (i6 : Int))), .d (PyData.int (min need_10 (gI left_8 (a5 + (i6 : Int)))))]) rfl ?_
      -- hk13: if part > 0
      refine bd_cut (fun r => ∃ (found_14 : (List (Int × Int × Int))) (left_15 : (List Int)) (need_16 : Int), (InP l5 f5 (gI asks_ a5) n5 (i6 + 1) need_16 left_15 found_14) ∧ Le [.d ((dL PyData.int) has_), .d ((dL PyData.int) asks_), .ol (left_15.map PyData.int), .ol (asks_.map PyData.int), .ol (found_14.map (dT3 PyData.int PyData.int PyData.int)), .d (PyData.int a5), .d (PyData.int need_16), .d (PyData.int (a5 + (i6 : Int))), .d (PyData.int (min need_10 (gI left_8 (a5 + (i6 : Int)))))] r) (sd_if (k := (decide (0 < (min need_10 (gI left_8 (a5 + (i6 : Int))))))) (td_gt (pd_var 8 rfl) pd_int) (fun hk13 => ?_) (fun hk13 => ?_)) ?_
      · skip
        have hk13f := hk13; try simp only [decide_eq_true_eq, decide_eq_false_iff_not, Bool.and_eq_true, Bool.or_eq_true, Bool.not_eq_true', Bool.not_eq_false', Bool.and_eq_false_iff, Bool.or_eq_false_iff, Bool.not_true, Bool.not_false, List.isEmpty_iff] at hk13f
        refine bd_seq (sd_appendM (f := (dT3 PyData.int PyData.int PyData.int)) (ns := found_9) (v := ((a5 + (i6 : Int)), a5, (min need_10 (gI left_8 (a5 + (i6 : Int)))))) 4 rfl (pd_tup (ad_cons (pd_var 7 rfl) (ad_cons (pd_var 5 rfl) (ad_cons (pd_var 8 rfl) ad_nil)))) rfl (/- side 11 -/ by omega) rfl) ?_
        refine bd_env (ρ' := [.d ((dL PyData.int) has_), .d ((dL PyData.int) asks_), .ol (left_8.map PyData.int), .ol (asks_.map PyData.int), .ol ((found_9 ++ [((a5 + (i6 : Int)), a5, (min need_10 (gI left_8 (a5 + (i6 : Int)))))]).map (dT3 PyData.int PyData.int PyData.int)), .d (PyData.int a5), .d (PyData.int need_10), .d (PyData.int (a5 + (i6 : Int))), .d (PyData.int (min need_10 (gI left_8 (a5 + (i6 : Int)))))]) rfl ?_
        refine bd_seq (sd_setixM (f := PyData.int) (ns := left_8) (ix := (a5 + (i6 : Int))) (v := ((gI left_8 (a5 + (i6 : Int))) - (min need_10 (gI left_8 (a5 + (i6 : Int)))))) 2 (pd_sub (pd_gixO (f := PyData.int) (ns := left_8) (i := (a5 + (i6 : Int))) 2 rfl (pd_var 7 rfl) rfl (/- side 12 -/ by omega)) (pd_var 8 rfl)) rfl (pd_var 7 rfl) rfl (/- side 13 -/ by omega) rfl) ?_
        refine bd_env (ρ' := [.d ((dL PyData.int) has_), .d ((dL PyData.int) asks_), .ol ((setI left_8 (a5 + (i6 : Int)) ((gI left_8 (a5 + (i6 : Int))) - (min need_10 (gI left_8 (a5 + (i6 : Int)))))).map PyData.int), .ol (asks_.map PyData.int), .ol ((found_9 ++ [((a5 + (i6 : Int)), a5, (min need_10 (gI left_8 (a5 + (i6 : Int)))))]).map (dT3 PyData.int PyData.int PyData.int)), .d (PyData.int a5), .d (PyData.int need_10), .d (PyData.int (a5 + (i6 : Int))), .d (PyData.int (min need_10 (gI left_8 (a5 + (i6 : Int)))))]) rfl ?_
        refine bd_seq (sd_set 6 (pd_sub (pd_var 6 rfl) (pd_var 8 rfl)) rfl sc_allotted.nd) ?_
        refine bd_env (ρ' := [.d ((dL PyData.int) has_), .d ((dL PyData.int) asks_), .ol ((setI left_8 (a5 + (i6 : Int)) ((gI left_8 (a5 + (i6 : Int))) - (min need_10 (gI left_8 (a5 + (i6 : Int)))))).map PyData.int), .ol (asks_.map PyData.int), .ol ((found_9 ++ [((a5 + (i6 : Int)), a5, (min need_10 (gI left_8 (a5 + (i6 : Int)))))]).map (dT3 PyData.int PyData.int PyData.int)), .d (PyData.int a5), .d (PyData.int (need_10 - (min need_10 (gI left_8 (a5 + (i6 : Int)))))), .d (PyData.int (a5 + (i6 : Int))), .d (PyData.int (min need_10 (gI left_8 (a5 + (i6 : Int)))))]) rfl ?_
        exact bd_nil ⟨(found_9 ++ [((a5 + (i6 : Int)), a5, (min need_10 (gI left_8 (a5 + (i6 : Int)))))]), (setI left_8 (a5 + (i6 : Int)) ((gI left_8 (a5 + (i6 : Int))) - (min need_10 (gI left_8 (a5 + (i6 : Int)))))), (need_10 - (min need_10 (gI left_8 (a5 + (i6 : Int))))), (by exact hn6.1 (by omega)), (by repeat (first | exact Le.nil | apply Le.eq | apply Le.un))⟩
      · skip
        have hk13f := hk13; try simp only [decide_eq_true_eq, decide_eq_false_iff_not, Bool.and_eq_true, Bool.or_eq_true, Bool.not_eq_true', Bool.not_eq_false', Bool.and_eq_false_iff, Bool.or_eq_false_iff, Bool.not_true, Bool.not_false, List.isEmpty_iff] at hk13f
        exact bd_nil ⟨found_9, left_8, need_10, (by exact hn6.2 (by omega)), (by repeat (first | exact Le.nil | apply Le.eq | apply Le.un))⟩
      rintro r ⟨found_14, left_15, need_16, hj, hle⟩
      refine bd_le hle ?_
      clear hle
      have hR6 := hj
      exact bd_nil ⟨_, (by repeat (first | exact Le.nil | apply Le.eq | apply Le.un)), ⟨left_15, found_14, need_16, (by exact hR6), rfl⟩⟩
    rintro r ⟨left_8, found_9, need_10, hI12, rfl⟩
    have hE6 := hI12
    rw [List.length_range] at hE6
    have hK := inp_end (hn5 ▸ hE6) (by rw [← hl5]; omega)
    rw [← hl5, ← hf5] at hK
    exact bd_nil ⟨_, (by repeat (first | exact Le.nil | apply Le.eq | apply Le.un)), ⟨left_8, found_9, (by rw [alS_succ has_ asks_ (by omega), ← hI7, ← hA, hn5]; exact hK), rfl⟩⟩
  rintro r ⟨left_5, found_6, hI7, rfl⟩
  have hE := hI7
  rw [rgDn_len] at hE
  refine bd_one (sd_ret (x := ((dL (dT3 PyData.int PyData.int PyData.int)) (srtD (dT3 PyData.int PyData.int PyData.int) found_6))) (pd_n (pn_sortedT (f := (dT3 PyData.int PyData.int PyData.int)) (ns := found_6) (G.Room.units65 hr) (fun a => ⟨((eqd_T3 eqd_int eqd_int eqd_int).lay a).1, Nat.le_trans ((eqd_T3 eqd_int eqd_int eqd_int).lay a).2 (by decide)⟩) (ltd_T3 eqd_int ltd_int eqd_int ltd_int eqd_int ltd_int sto_I).al (sbl_T3 _) Y.z_sorted (pq_o 4 rfl) (srcO rfl))) ?_)
  show ((dL (dT3 PyData.int PyData.int PyData.int)) (srtD (dT3 PyData.int PyData.int PyData.int) found_6)) = ((dL (dT3 PyData.int PyData.int PyData.int)) (m_allotted has_ asks_))
  refine congrArg (dL (dT3 PyData.int PyData.int PyData.int)) (?_ : ((srtD (dT3 PyData.int PyData.int PyData.int) found_6) : (List (Int × Int × Int))) = (m_allotted has_ asks_))
  unfold m_allotted; rw [show asks_.length = ((asks_.length : Int) - 1 - -1).toNat by omega, ← hE]
theorem c_allotted (Y : Py P K mg) : Cal P w K mg base 5 "allotted" (spD K S_allotted) [] := by
  obtain ⟨fd, F⟩ := Y.d_allotted
  exact ⟨_, fd, _, [], f_allotted Y F, Y.g_allotted, F.kp, F.bindsN (ps := [("has" : Str), ("asks" : Str)]) fun _ _ _ _ _ _ us hl => match us, hl with | [_, _], _ => rfl, .nil⟩
end
end GP
namespace GP
open PySem PySem.Spec PyProof.Rows L2 G
section
variable {P : Program} {w : World} {K : PySem.W.Frag} {mg : Str → Option Value} {base : Heap}

theorem inj__law_amounts {many_ many_' : Int} (h : ([(PyData.int many_)] : List PyData) = [(PyData.int many_')]) : many_ = many_' := by
  simp only [List.cons.injEq, PyData.int.injEq, PyData.bool.injEq, PyData.str.injEq, PyData.list.injEq, and_true] at h
  simp_all
def S__law_amounts (ds : List PyData) : Prop := ∃ (many_ : Int), ds = [(PyData.int many_)] ∧ (0 ≤ many_ ∧ many_ ≤ 40)
def R__law_amounts (many_ : Int) (y : PyData) : Prop := ∃ (z_ : (List Int)), y = ((dL PyData.int) z_) ∧ (AmL many_ z_)
abbrev Q__law_amounts : List PyData → PyData → Prop := (fun ds y => ∀ (many_ : Int), ds = [(PyData.int many_)] → R__law_amounts many_ y)
theorem f__law_amounts (Y : Py P K mg) {fd : FuncData} (F : FunD K "_law_amounts" "_law_amounts" (defArgs s__law_amounts) (defBody s__law_amounts) (defScope s__law_amounts) [] [] (He.ga K "_law_amounts") fd) : FnOk P w K mg base (L2N.CX P w) 3 (He.ga K "_law_amounts") fd [("pool" : Str), ("many" : Str)] (spP K S__law_amounts Q__law_amounts) := by
  refine fn_PD F sc__law_amounts (fun ds h => by obtain ⟨_, rfl, _⟩ := h; rfl) (by decide) (fun cdv A outer s H E hr l_ p_ ds h => ?_)
  obtain ⟨many_, rfl, pre⟩ := h
  refine bd_env (ρ' := [.o (some l_) (.l (pl p_)), .d (PyData.int many_), .un, .un]) rfl ?_
  obtain ⟨v17, q18, mv17, hv17⟩ := pickS p_ ([3, 8] : List Int) PyData.int (by first | decide | (simp; done) | omega | (simp; omega)) (by first | decide | (simp; done) | omega | (simp; omega))
  refine bd_seq (sd_set 2 (pd_callO (y := (PyData.int v17)) (xs' := pl q18) 0 (c__law_pick Y) hr .nil rfl (ad_cons (pd_n (pn_lst (ad_cons pd_int (ad_cons pd_int ad_nil)))) ad_nil) rfl hv17) rfl sc__law_amounts.nd) ?_
  refine bd_env (ρ' := [.o (some l_) (.l (pl q18)), .d (PyData.int many_), .d (PyData.int v17), .un]) rfl ?_
  have hw8 := wide78 (by assumption)
  refine bd_one (sd_ret (x := ((dL PyData.int) (scanV (fun (qq20 : Pool) (a19 : Nat) => (drawP ((drawP ((drawP qq20 v17).2) v17).2) (([0, (drawP qq20 v17).1, (drawP ((drawP qq20 v17).2) v17).1] : List Int).length : Int)).2) (fun _ _ => true) (fun (qq20 : Pool) (a19 : Nat) => (gI ([0, (drawP qq20 v17).1, (drawP ((drawP qq20 v17).2) v17).1] : List Int) (drawP ((drawP ((drawP qq20 v17).2) v17).2) (([0, (drawP qq20 v17).1, (drawP ((drawP qq20 v17).2) v17).1] : List Int).length : Int)).1)) q18 (List.range (many_).toNat)))) (pd_n (pn_lc (lcS (List.range (many_).toNat) (fun i : Nat => PyData.int (i : Int)) PyData.int (fun qq20 : Pool => [.o (some l_) (.l (pl qq20)), .d (PyData.int many_), .d (PyData.int v17), .un]) (fun (qq20 : Pool) (a19 : Nat) => (drawP ((drawP ((drawP qq20 v17).2) v17).2) (([0, (drawP qq20 v17).1, (drawP ((drawP qq20 v17).2) v17).1] : List Int).length : Int)).2) (fun _ _ => true) (fun (qq20 : Pool) (a19 : Nat) => (gI ([0, (drawP qq20 v17).1, (drawP ((drawP qq20 v17).2) v17).1] : List Int) (drawP ((drawP ((drawP qq20 v17).2) v17).2) (([0, (drawP qq20 v17).1, (drawP ((drawP qq20 v17).2) v17).1] : List Int).length : Int)).1)) q18 (blkOk_by (own := [("k", 3)]) (show blkC n__law_amounts (defScope s__law_amounts) _ _ = true by decide +kernel)) (id_rangeI Y.z_range (pd_var 1 rfl) (/- side 0 -/ by omega) (/- side 1 -/ by omega)) (by repeat (first | exact Le.nil | apply Le.eq | apply Le.un)) (/- side 2 -/ by rw [List.length_range]; omega) (by intro _ h; cases h) (fun _ => trivial) (fun i a19 qq20 ha hs => ⟨_, _, _, (fun Z hZ => by obtain ⟨s1, H1, C1, cl1, fp1, rfl⟩ := hZ; exact (gv_name 3 (by decide) sc__law_amounts.nd)), (fun Z hZ => by obtain ⟨s1, H1, C1, cl1, fp1, rfl⟩ := hZ; exact tsd_nil), (fun Z hZ _ => by obtain ⟨s1, H1, C1, cl1, fp1, rfl⟩ := hZ; have bv21 := draw_bd qq20 (n := v17) (by first | decide | omega); have bv23 := draw_bd ((drawP qq20 v17).2) (n := v17) (by first | decide | omega); have bp24 := draw_bd ((drawP ((drawP qq20 v17).2) v17).2) (n := (([0, (drawP qq20 v17).1, (drawP ((drawP qq20 v17).2) v17).1] : List Int).length : Int)) (by first | decide | (simp; done) | omega | (simp; omega)); exact (pd_callO (y := (PyData.int (gI ([0, (drawP qq20 v17).1, (drawP ((drawP qq20 v17).2) v17).1] : List Int) (drawP ((drawP ((drawP qq20 v17).2) v17).2) (([0, (drawP qq20 v17).1, (drawP ((drawP qq20 v17).2) v17).1] : List Int).length : Int)).1))) (xs' := pl ((drawP ((drawP ((drawP qq20 v17).2) v17).2) (([0, (drawP qq20 v17).1, (drawP ((drawP qq20 v17).2) v17).1] : List Int).length : Int)).2)) 0 (c__law_pick Y) hr .nil rfl (ad_cons (pd_n (pn_lst (ad_cons pd_int (ad_cons (pd_callO 0 (c__law_draw Y) hr .nil rfl (ad_cons (pd_var 2 rfl) ad_nil) rfl ⟨qq20, v17, _, rfl, rfl, ⟨by first | decide | omega, by first | decide | omega⟩, rfl, rfl, rfl⟩) (ad_cons (pd_callO 0 (c__law_draw Y) hr .nil rfl (ad_cons (pd_var 2 rfl) ad_nil) rfl ⟨(drawP qq20 v17).2, v17, _, rfl, rfl, ⟨by first | decide | omega, by first | decide | omega⟩, rfl, rfl, rfl⟩) ad_nil))))) ad_nil) rfl (pickT ((drawP ((drawP qq20 v17).2) v17).2) ([0, (drawP qq20 v17).1, (drawP ((drawP qq20 v17).2) v17).1] : List Int) PyData.int (by first | decide | (simp; done) | omega | (simp; omega)) (by first | decide | (simp; done) | omega | (simp; omega))))), (fun _ => (by repeat (first | exact Le.nil | apply Le.eq | apply Le.un))), (fun z => nomatch z)⟩)) sc__law_amounts.nd)) ?_)
  refine ⟨fun z0_ e9 => ?_, _, rfl⟩
  obtain ⟨rfl⟩ := inj__law_amounts e9
  exact ⟨_, rfl, by exact ⟨by rw [scan_len _ _ _ (fun _ _ => rfl), List.length_range]; omega, scan_mem2 _ _ _ (fun x => 0 ≤ x ∧ x ≤ 7) (fun q a => amt78 _ (by omega) (by omega)) _ _⟩⟩
theorem c__law_amounts (Y : Py P K mg) : Cal P w K mg base 3 "_law_amounts" (spP K S__law_amounts Q__law_amounts) [] := by
  obtain ⟨fd, F⟩ := Y.d__law_amounts
  exact ⟨_, fd, _, [], f__law_amounts Y F, Y.g__law_amounts, F.kp, F.bindsN (ps := [("pool" : Str), ("many" : Str)]) fun _ _ _ _ _ _ us hl => match us, hl with | [_, _], _ => rfl, .nil⟩
def S__law_over (ds : List PyData) (r : Res) : Prop := ∃ (has_ : (List Int)) (asks_ : (List Int)), ds = [((dL PyData.int) has_), ((dL PyData.int) asks_)] ∧ (has_.length = asks_.length ∧ has_.length ≤ 40) ∧ r = .ret ((dL PyData.int) (m__law_over has_ asks_))
theorem f__law_over (Y : Py P K mg) {fd : FuncData} (F : FunD K "_law_over" "_law_over" (defArgs s__law_over) (defBody s__law_over) (defScope s__law_over) [] [] (He.ga K "_law_over") fd) : FnOk P w K mg base (L2N.CX P w) 1 (He.ga K "_law_over") fd [("has" : Str), ("asks" : Str)] (spD K S__law_over) := by
  refine fn_DD F sc__law_over (fun ds r h => by obtain ⟨_, _, rfl, _⟩ := h; rfl) (by decide) (fun cdv A outer s H E hr ds r h => ?_)
  obtain ⟨has_, asks_, rfl, pre, rfl⟩ := h
  refine bd_env (ρ' := [.d ((dL PyData.int) has_), .d ((dL PyData.int) asks_), .un]) rfl ?_
  obtain ⟨pl, phl⟩ := pre
  refine bd_one (sd_ret (x := ((dL PyData.int) ((List.range (has_.length)).map (fun (a26 : Nat) => ((cutG has_ (some (a26 : Int)) none).sum - (cutG asks_ (some (a26 : Int)) none).sum))))) (pd_n (pn_lc (lcN (List.range (has_.length)) (fun i : Nat => PyData.int (i : Int)) PyData.int (fun (a26 : Nat) => ((cutG has_ (some (a26 : Int)) none).sum - (cutG asks_ (some (a26 : Int)) none).sum)) (blkOk_by (own := [("k", 2)]) (show blkC n__law_over (defScope s__law_over) _ _ = true by decide +kernel)) (id_range0 Y.z_range (pd_lenD (f := PyData.int) (ns := has_) Y.z_len (pd_var 0 rfl)) (/- side 0 -/ by first | omega | (simp; omega))) (/- side 1 -/ by rw [List.length_range]; omega) (by intro _ h; cases h) (by trivial) (fun a26 ha => ⟨_, _, (fun Z hZ => by obtain ⟨s1, H1, C1, cl1, fp1, rfl⟩ := hZ; exact (gv_name 2 (by decide) sc__law_over.nd)), (fun Z hZ => by obtain ⟨s1, H1, C1, cl1, fp1, rfl⟩ := hZ; exact (pd_sub (pd_sumD (ns := (cutG has_ (some (a26 : Int)) none)) rfl Y.z_sum (pd_n (pn_sliceM (f := PyData.int) (ns := has_) (ol := (some (a26 : Int))) (oh := none) (pq_d (pd_var 0 rfl)) (od_some (pd_var 2 rfl)) od_none srcN))) (pd_sumD (ns := (cutG asks_ (some (a26 : Int)) none)) rfl Y.z_sum (pd_n (pn_sliceM (f := PyData.int) (ns := asks_) (ol := (some (a26 : Int))) (oh := none) (pq_d (pd_var 1 rfl)) (od_some (pd_var 2 rfl)) od_none srcN))))), (by repeat (first | exact Le.nil | apply Le.eq | apply Le.un)), (by repeat (first | exact Le.nil | apply Le.eq | apply Le.un))⟩)) sc__law_over.nd)) ?_)
  show ((dL PyData.int) ((List.range (has_.length)).map (fun (a26 : Nat) => ((cutG has_ (some (a26 : Int)) none).sum - (cutG asks_ (some (a26 : Int)) none).sum)))) = ((dL PyData.int) (m__law_over has_ asks_))
  refine congrArg (dL PyData.int) (?_ : (((List.range (has_.length)).map (fun (a26 : Nat) => ((cutG has_ (some (a26 : Int)) none).sum - (cutG asks_ (some (a26 : Int)) none).sum))) : (List Int)) = (m__law_over has_ asks_))
  exact over_eq pl
theorem c__law_over (Y : Py P K mg) : Cal P w K mg base 1 "_law_over" (spD K S__law_over) [] := by
  obtain ⟨fd, F⟩ := Y.d__law_over
  exact ⟨_, fd, _, [], f__law_over Y F, Y.g__law_over, F.kp, F.bindsN (ps := [("has" : Str), ("asks" : Str)]) fun _ _ _ _ _ _ us hl => match us, hl with | [_, _], _ => rfl, .nil⟩
end
end GP
namespace GP
open PySem PySem.Spec PyProof.Rows L2 G
section
variable {P : Program} {w : World} {K : PySem.W.Frag} {mg : Str → Option Value} {base : Heap}

def S__law_given (ds : List PyData) (r : Res) : Prop := ∃ (has_ : (List Int)) (asks_ : (List Int)), ds = [((dL PyData.int) has_), ((dL PyData.int) asks_)] ∧ (Am has_ ∧ Am asks_ ∧ has_.length = asks_.length) ∧ r = .ret ((dL (dT3 PyData.int PyData.int PyData.int)) (m_allotted has_ asks_))
theorem f__law_given (Y : Py P K mg) {fd : FuncData} (F : FunD K "_law_given" "_law_given" (defArgs s__law_given) (defBody s__law_given) (defScope s__law_given) [] [] (He.ga K "_law_given") fd) : FnOk P w K mg base (L2N.CX P w) 1 (He.ga K "_law_given") fd [("has" : Str), ("asks" : Str)] (spD K S__law_given) := by
  refine fn_DD F sc__law_given (fun ds r h => by obtain ⟨_, _, rfl, _⟩ := h; rfl) (by decide) (fun cdv A outer s H E hr ds r h => ?_)
  obtain ⟨has_, asks_, rfl, pre, rfl⟩ := h
  refine bd_env (ρ' := [.d ((dL PyData.int) has_), .d ((dL PyData.int) asks_), .un, .un, .un, .un, .un, .un, .un, .un]) rfl ?_
  obtain ⟨ph, pa, pl⟩ := pre
  have phl := ph.len
  have pal := pa.len
  refine bd_seq (sd_setN 2 (pn_list Y.z_list (pq_d (pd_var 0 rfl)) srcN) rfl sc__law_given.nd) ?_
  refine bd_env (ρ' := [.d ((dL PyData.int) has_), .d ((dL PyData.int) asks_), .ol (has_.map PyData.int), .un, .un, .un, .un, .un, .un, .un]) rfl ?_
  refine bd_seq (sd_setN 3 pn_dictT rfl sc__law_given.nd) ?_
  refine bd_env (ρ' := [.d ((dL PyData.int) has_), .d ((dL PyData.int) asks_), .ol (has_.map PyData.int), .o none (oT (kT2 kI kI) PyData.int []), .un, .un, .un, .un, .un, .un]) rfl ?_
  -- for for k in range(len(asks)):
  refine bd_cut (fun r : En => ∃ (left_27 : (List Int)) (found_28 : (List ((Int × Int) × Int))), ((left_27, found_28) = ((alS has_ asks_ (List.range (asks_.length)).length).1, dOf (alS has_ asks_ (List.range (asks_.length)).length).2)) ∧ r = [.d ((dL PyData.int) has_), .d ((dL PyData.int) asks_), .ol (left_27.map PyData.int), .o none (oT (kT2 kI kI) PyData.int found_28), .un, .un, .un, .un, .un, .un]) (sd_forM (List.range (asks_.length)) (fun i : Nat => PyData.int (i : Int)) (fun (i5 : Nat) (r : En) => ∃ (left_27 : (List Int)) (found_28 : (List ((Int × Int) × Int))), ((left_27, found_28) = ((alS has_ asks_ i5).1, dOf (alS has_ asks_ i5).2)) ∧ r = [.d ((dL PyData.int) has_), .d ((dL PyData.int) asks_), .ol (left_27.map PyData.int), .o none (oT (kT2 kI kI) PyData.int found_28), .un, .un, .un, .un, .un, .un]) (passes_of rfl) rfl (id_range0 Y.z_range (pd_lenD (f := PyData.int) (ns := asks_) Y.z_len (pd_var 1 rfl)) (/- side 0 -/ by first | omega | (simp; omega))) ⟨_, (by repeat (first | exact Le.nil | apply Le.eq | apply Le.un)), ⟨has_, [], (by exact rfl), rfl⟩⟩ (fun _ _ _ => trivial) (fun i5 a29 r ha_a29 hI => ?_) (fun r h => h)) ?_
  · obtain ⟨left_27, found_28, hI30, rfl⟩ := hI
    obtain ⟨rfl, hi_i5⟩ := range_at ha_a29
    refine ⟨_, (gd_name 4 sc__law_given.nd), ?_⟩
    refine bd_env (ρ' := [.d ((dL PyData.int) has_), .d ((dL PyData.int) asks_), .ol (left_27.map PyData.int), .o none (oT (kT2 kI kI) PyData.int found_28), .d (PyData.int (i5 : Int)), .un, .un, .un, .un, .un]) rfl ?_
    have hI7 := hI30
    have hi5 := hi_i5
    have J := als_is pl (fun x hx => (ph.bd x hx).1) (fun x hx => (pa.bd x hx).1) i5 (by omega)
    have hJ1 := (Prod.mk.inj hI7).1
    have hJ2 := (Prod.mk.inj hI7).2
    have Jl : (left_27).length = has_.length := by rw [hJ1]; exact J.len
    have Jf : (found_28).length ≤ i5 * has_.length := by rw [hJ2]; unfold dOf; rw [List.length_map]; exact J.few
    have Jm : i5 * has_.length ≤ 40 * 40 := Nat.mul_le_mul (by omega) (by omega)
    refine bd_seq (sd_set 5 (pd_sub (pd_sub (pd_lenD (f := PyData.int) (ns := asks_) Y.z_len (pd_var 1 rfl)) pd_int) (pd_var 4 rfl)) rfl sc__law_given.nd) ?_
    refine bd_env (ρ' := [.d ((dL PyData.int) has_), .d ((dL PyData.int) asks_), .ol (left_27.map PyData.int), .o none (oT (kT2 kI kI) PyData.int found_28), .d (PyData.int (i5 : Int)), .d (PyData.int (((asks_.length : Int) - 1) - (i5 : Int))), .un, .un, .un, .un]) rfl ?_
    obtain ⟨asked_31, hasked_31⟩ : ∃ z : Int, ((((asks_.length : Int) - 1) - (i5 : Int)) : Int) = z := ⟨_, rfl⟩
    refine bd_env (ρ' := [.d ((dL PyData.int) has_), .d ((dL PyData.int) asks_), .ol (left_27.map PyData.int), .o none (oT (kT2 kI kI) PyData.int found_28), .d (PyData.int (i5 : Int)), .d (PyData.int asked_31), .un, .un, .un, .un]) (by rw [← hasked_31]) ?_
    obtain ⟨n5, hn5⟩ : ∃ n5 : Nat, asked_31 = (n5 : Int) := ⟨(asked_31).toNat, by omega⟩
    have hn5b : n5 < asks_.length := by omega
    have ga := pa.bd _ (gI_mem (xs := asks_) (i := asked_31) (by omega))
    obtain ⟨l5, hl5⟩ : ∃ z, left_27 = z := ⟨_, rfl⟩
    have hl5l : l5.length = has_.length := by rw [← hl5]; exact Jl
    obtain ⟨d5, hd5⟩ : ∃ z, found_28 = z := ⟨_, rfl⟩
    have hl5n : ∀ x ∈ l5, 0 ≤ x := fun x hx => J.nn x (by rw [← hJ1, hl5]; exact hx)
    have hd5k : ∀ k ∈ d5.map (·.1), k.2 ≠ (n5 : Int) := fun k hk => by rw [← hd5, hJ2, dOf_keys] at hk; obtain ⟨r, hr, rfl⟩ := List.mem_map.mp hk; have := J.key r hr; dsimp only; omega
    have hd5l : d5.length ≤ i5 * has_.length := by rw [← hd5]; exact Jf
    -- for for load in range(asks[asked]):
    refine bd_cut (fun r : En => ∃ (left_32 : (List Int)) (found_33 : (List ((Int × Int) × Int))), (LL l5 d5 n5 ((List.range ((gI asks_ asked_31)).toNat).length : Int) left_32 found_33) ∧ r = [.d ((dL PyData.int) has_), .d ((dL PyData.int) asks_), .ol (left_32.map PyData.int), .o none (oT (kT2 kI kI) PyData.int found_33), .d (PyData.int (i5 : Int)), .d (PyData.int asked_31), .un, .un, .un, .un]) (sd_forM (List.range ((gI asks_ asked_31)).toNat) (fun i : Nat => PyData.int (i : Int)) (fun (i6 : Nat) (r : En) => ∃ (left_32 : (List Int)) (found_33 : (List ((Int × Int) × Int))), (LL l5 d5 n5 (i6 : Int) left_32 found_33) ∧ r = [.d ((dL PyData.int) has_), .d ((dL PyData.int) asks_), .ol (left_32.map PyData.int), .o none (oT (kT2 kI kI) PyData.int found_33), .d (PyData.int (i5 : Int)), .d (PyData.int asked_31), .un, .un, .un, .un]) (passes_of rfl) rfl (id_rangeI Y.z_range (pd_gixD (f := PyData.int) (ns := asks_) (i := asked_31) (/- side 1 -/ by omega) (pd_var 1 rfl) (pd_var 5 rfl)) (/- side 2 -/ by omega) (/- side 3 -/ by omega)) ⟨_, (by repeat (first | exact Le.nil | apply Le.eq | apply Le.un)), ⟨left_27, found_28, (by rw [hl5, hd5]; exact ll_zero hl5n), rfl⟩⟩ (fun _ _ _ => trivial) (fun i6 a34 r ha_a34 hI => ?_) (fun r h => h)) ?_
    · obtain ⟨left_32, found_33, hI35, rfl⟩ := hI
      obtain ⟨rfl, hi_i6⟩ := range_at ha_a34
      refine ⟨_, (gd_name 6 sc__law_given.nd), ?_⟩
      refine bd_env (ρ' := [.d ((dL PyData.int) has_), .d ((dL PyData.int) asks_), .ol (left_32.map PyData.int), .o none (oT (kT2 kI kI) PyData.int found_33), .d (PyData.int (i5 : Int)), .d (PyData.int asked_31), .d (PyData.int (i6 : Int)), .un, .un, .un]) rfl ?_
      have hI8 := hI35
      have hF8 := ll_few hI8
      have hi6 := hi_i6
      have hL8 := hI8.len (by rw [← hl5]; omega)
      rw [← hl5] at hL8
      refine bd_seq (sd_setLcD 7 (lcM (List.range (((left_32.length : Int)) - (asked_31)).toNat) (fun i : Nat => PyData.int (asked_31 + (i : Int))) PyData.int (fun (a36 : Nat) => (decide (0 < (gI left_32 (asked_31 + (a36 : Int)))))) (fun (a36 : Nat) => (asked_31 + (a36 : Int))) (blkOk_by (own := [("sort", 8)]) (show blkC n__law_given (defScope s__law_given) _ _ = true by decide +kernel)) (id_rangeM (m := asked_31) (n := (left_32.length : Int)) Y.z_range (pd_var 5 rfl) (pd_lenO (f := PyData.int) (ns := left_32) 2 Y.z_len rfl) (/- side 4 -/ by omega) (/- side 5 -/ by omega) (/- side 6 -/ by omega) (/- side 7 -/ by omega)) (/- side 9 -/ by rw [List.length_range]; omega) (by intro _ h; cases h) (by trivial) (fun a36 ha => ⟨_, _, (fun Z hZ => by obtain ⟨s1, H1, C1, cl1, fp1, rfl⟩ := hZ; exact (gv_name 8 (by decide) sc__law_given.nd)), (fun Z hZ => by obtain ⟨s1, H1, C1, cl1, fp1, rfl⟩ := hZ; exact (tsd_one (td_gt (pd_gixO (f := PyData.int) (ns := left_32) (i := (asked_31 + (a36 : Int))) 2 rfl (pd_var 8 rfl) rfl (/- side 8 -/ by have h9 := List.mem_range.mp ha; omega)) pd_int))), (fun Z hZ hw => by obtain ⟨s1, H1, C1, cl1, fp1, rfl⟩ := hZ; exact (pd_var 8 rfl)), (by repeat (first | exact Le.nil | apply Le.eq | apply Le.un)), (by repeat (first | exact Le.nil | apply Le.eq | apply Le.un))⟩)) rfl sc__law_given.nd) ?_
      refine bd_env (ρ' := [.d ((dL PyData.int) has_), .d ((dL PyData.int) asks_), .ol (left_32.map PyData.int), .o none (oT (kT2 kI kI) PyData.int found_33), .d (PyData.int (i5 : Int)), .d (PyData.int asked_31), .d (PyData.int (i6 : Int)), .d ((dL PyData.int) (((List.range (((left_32.length : Int)) - (asked_31)).toNat).filter (fun (a36 : Nat) => (decide (0 < (gI left_32 (asked_31 + (a36 : Int))))))).map (fun (a36 : Nat) => (asked_31 + (a36 : Int))))), .un, .un]) rfl ?_
      obtain ⟨good_37, hgood_37⟩ : ∃ z : (List Int), ((((List.range (((left_32.length : Int)) - (asked_31)).toNat).filter (fun (a36 : Nat) => (decide (0 < (gI left_32 (asked_31 + (a36 : Int))))))).map (fun (a36 : Nat) => (asked_31 + (a36 : Int)))) : (List Int)) = z := ⟨_, rfl⟩
      refine bd_env (ρ' := [.d ((dL PyData.int) has_), .d ((dL PyData.int) asks_), .ol (left_32.map PyData.int), .o none (oT (kT2 kI kI) PyData.int found_33), .d (PyData.int (i5 : Int)), .d (PyData.int asked_31), .d (PyData.int (i6 : Int)), .d ((dL PyData.int) good_37), .un, .un]) (by rw [← hgood_37]) ?_
      have hg8 : gds left_32 n5 = good_37 := by rw [← hgood_37, hn5]; rfl
      -- hk38: if len(good) > 0
      refine bd_cut (fun r => ∃ (left_39 : (List Int)) (found_40 : (List ((Int × Int) × Int))), (LL l5 d5 n5 ((i6 + 1 : Nat) : Int) left_39 found_40) ∧ Le [.d ((dL PyData.int) has_), .d ((dL PyData.int) asks_), .ol (left_39.map PyData.int), .o none (oT (kT2 kI kI) PyData.int found_40), .d (PyData.int (i5 : Int)), .d (PyData.int asked_31), .d (PyData.int (i6 : Int)), .d ((dL PyData.int) good_37), .un, .un] r) (sd_if (k := (decide (0 < (good_37.length : Int)))) (td_gt (pd_lenD (f := PyData.int) (ns := good_37) Y.z_len (pd_var 7 rfl)) pd_int) (fun hk38 => ?_) (fun hk38 => ?_)) ?_
      · skip
        have hk38f := hk38; try simp only [decide_eq_true_eq, decide_eq_false_iff_not, Bool.and_eq_true, Bool.or_eq_true, Bool.not_eq_true', Bool.not_eq_false', Bool.and_eq_false_iff, Bool.or_eq_false_iff, Bool.not_true, Bool.not_false, List.isEmpty_iff] at hk38f
        obtain ⟨g_, r_, hgr⟩ : ∃ g r, good_37 = g :: r := List.exists_cons_of_length_pos (by omega)
        have hT8 := ll_take hl5n (show (0 : Int) ≤ (i6 : Int) by omega) (by rw [← hl5]; omega) hI8 hd5k (by rw [hg8]; exact hgr)
        have hg0 : gI good_37 0 = g_ := by rw [hgr]; rfl
        refine bd_seq (sd_setixM (f := PyData.int) (ns := left_32) (ix := (gI good_37 0)) (v := ((gI left_32 (gI good_37 0)) - 1)) 2 (pd_sub (pd_gixO (f := PyData.int) (ns := left_32) (i := (gI good_37 0)) 2 rfl (pd_gixD (f := PyData.int) (ns := good_37) (i := 0) (/- side 10 -/ by omega) (pd_var 7 rfl) pd_int) rfl (/- side 11 -/ by rw [hg0]; omega)) pd_int) rfl (pd_gixD (f := PyData.int) (ns := good_37) (i := 0) (/- side 12 -/ by omega) (pd_var 7 rfl) pd_int) rfl (/- side 13 -/ by rw [hg0]; omega) rfl) ?_
        refine bd_env (ρ' := [.d ((dL PyData.int) has_), .d ((dL PyData.int) asks_), .ol ((setI left_32 (gI good_37 0) ((gI left_32 (gI good_37 0)) - 1)).map PyData.int), .o none (oT (kT2 kI kI) PyData.int found_33), .d (PyData.int (i5 : Int)), .d (PyData.int asked_31), .d (PyData.int (i6 : Int)), .d ((dL PyData.int) good_37), .un, .un]) rfl ?_
        refine bd_seq (sd_dput 3 (G.Room.units65 hr) (pd_add (pd_cast (getD_map PyData.int _ _) (pd_dget2O 3 (G.Room.units65 hr) rfl (pd_tup (ad_cons (pd_gixD (f := PyData.int) (ns := good_37) (i := 0) (/- side 14 -/ by omega) (pd_var 7 rfl) pd_int) (ad_cons (pd_var 5 rfl) ad_nil))) pd_int rfl (dk_t (kT2_inj kI_inj kI_inj) found_33 ((gI good_37 0), asked_31)) (dk_t (kT2_inj kI_inj kI_inj) found_33 ((gI good_37 0), asked_31)))) pd_int) rfl (pd_tup (ad_cons (pd_gixD (f := PyData.int) (ns := good_37) (i := 0) (/- side 15 -/ by omega) (pd_var 7 rfl) pd_int) (ad_cons (pd_var 5 rfl) ad_nil))) rfl (dp_t (kT2_inj kI_inj kI_inj) found_33 ((gI good_37 0), asked_31) (((gv found_33 ((gI good_37 0), asked_31)).getD 0) + 1) (f := PyData.int) (/- side 16 -/ by omega)) rfl) ?_
        refine bd_env (ρ' := [.d ((dL PyData.int) has_), .d ((dL PyData.int) asks_), .ol ((setI left_32 (gI good_37 0) ((gI left_32 (gI good_37 0)) - 1)).map PyData.int), .o none (oT (kT2 kI kI) PyData.int (pv found_33 ((gI good_37 0), asked_31) (((gv found_33 ((gI good_37 0), asked_31)).getD 0) + 1))), .d (PyData.int (i5 : Int)), .d (PyData.int asked_31), .d (PyData.int (i6 : Int)), .d ((dL PyData.int) good_37), .un, .un]) rfl ?_
        have hR8 : LL l5 d5 n5 ((i6 + 1 : Nat) : Int) (setI left_32 (gI good_37 0) ((gI left_32 (gI good_37 0)) - 1)) (pv found_33 ((gI good_37 0), asked_31) (((gv found_33 ((gI good_37 0), asked_31)).getD 0) + 1)) := by rw [hg0, hn5, show ((i6 + 1 : Nat) : Int) = (i6 : Int) + 1 by omega]; exact hT8.1
        exact bd_nil ⟨(setI left_32 (gI good_37 0) ((gI left_32 (gI good_37 0)) - 1)), (pv found_33 ((gI good_37 0), asked_31) (((gv found_33 ((gI good_37 0), asked_31)).getD 0) + 1)), (by exact hR8), (by repeat (first | exact Le.nil | apply Le.eq | apply Le.un))⟩
      · skip
        have hk38f := hk38; try simp only [decide_eq_true_eq, decide_eq_false_iff_not, Bool.and_eq_true, Bool.or_eq_true, Bool.not_eq_true', Bool.not_eq_false', Bool.and_eq_false_iff, Bool.or_eq_false_iff, Bool.not_true, Bool.not_false, List.isEmpty_iff] at hk38f
        exact bd_nil ⟨left_32, found_33, (by rw [show ((i6 + 1 : Nat) : Int) = (i6 : Int) + 1 by omega]; exact ll_skip hl5n (by omega) (by rw [← hl5]; omega) hI8 (by rw [hg8]; exact List.length_eq_zero_iff.mp (by omega))), (by repeat (first | exact Le.nil | apply Le.eq | apply Le.un))⟩
      rintro r ⟨left_39, found_40, hj, hle⟩
      refine bd_le hle ?_
      clear hle
      have hR7 := hj
      exact bd_nil ⟨_, (by repeat (first | exact Le.nil | apply Le.eq | apply Le.un)), ⟨left_39, found_40, (by exact hR7), rfl⟩⟩
    rintro r ⟨left_32, found_33, hI35, rfl⟩
    have hE6 := hI35
    rw [List.length_range] at hE6
    rw [show (((gI asks_ asked_31).toNat : Nat) : Int) = gI asks_ asked_31 by omega] at hE6
    have hQ7 := ll_end (asks := asks_) (F := (alS has_ asks_ i5).2) (L0 := (alS has_ asks_ i5).1) (by rw [← hJ1, hl5, ← hJ2, hd5, ← hn5]; exact hE6)
    rw [← hn5, show asked_31 = (asks_.length : Int) - 1 - (i5 : Int) by omega, show ((alS has_ asks_ i5).1, (alS has_ asks_ i5).2) = alS has_ asks_ i5 from rfl, ← alS_succ has_ asks_ (by omega)] at hQ7
    exact bd_nil ⟨_, (by repeat (first | exact Le.nil | apply Le.eq | apply Le.un)), ⟨left_32, found_33, (by exact hQ7), rfl⟩⟩
  rintro r ⟨left_27, found_28, hI30, rfl⟩
  have hE := hI30
  rw [List.length_range] at hE
  have JE := als_is pl (fun x hx => (ph.bd x hx).1) (fun x hx => (pa.bd x hx).1) asks_.length (Nat.le_refl _)
  have hE2 := (Prod.mk.inj hE).2
  have JF : (found_28).length ≤ asks_.length * has_.length := by rw [hE2]; unfold dOf; rw [List.length_map]; exact JE.few
  have JM : asks_.length * has_.length ≤ 40 * 40 := Nat.mul_le_mul (by omega) (by omega)
  refine bd_one (sd_ret (x := ((dL (dT3 PyData.int PyData.int PyData.int)) (srtD (dT3 PyData.int PyData.int PyData.int) ((found_28.map (·.1)).map (fun (a41 : (Int × Int)) => (a41.1, a41.2, (gD found_28 a41))))))) (pd_n (pn_sortedT (f := (dT3 PyData.int PyData.int PyData.int)) (ns := ((found_28.map (·.1)).map (fun (a41 : (Int × Int)) => (a41.1, a41.2, (gD found_28 a41))))) (G.Room.units65 hr) (fun a => ⟨((eqd_T3 eqd_int eqd_int eqd_int).lay a).1, Nat.le_trans ((eqd_T3 eqd_int eqd_int eqd_int).lay a).2 (by decide)⟩) (ltd_T3 eqd_int ltd_int eqd_int ltd_int eqd_int ltd_int sto_I).al (sbl_T3 _) Y.z_sorted (pq_d (pd_n (pn_lc (lcN (found_28.map (·.1)) (dT2 PyData.int PyData.int) (dT3 PyData.int PyData.int PyData.int) (fun (a41 : (Int × Int)) => (a41.1, a41.2, (gD found_28 a41))) (blkOk_by (own := [("pair", 9)]) (show blkC n__law_given (defScope s__law_given) _ _ = true by decide +kernel)) (id_dkT (td := (dT2 PyData.int PyData.int)) (fun _ => rfl) (pd_thawT 3 rfl)) (/- side 18 -/ by rw [List.length_map]; omega) (by intro _ h; cases h) (by trivial) (fun a41 ha => ⟨_, _, (fun Z hZ => by obtain ⟨s1, H1, C1, cl1, fp1, rfl⟩ := hZ; exact (gv_name 9 (by decide) sc__law_given.nd)), (fun Z hZ => by obtain ⟨s1, H1, C1, cl1, fp1, rfl⟩ := hZ; exact (pd_tup (ad_cons (pd_ixT (i := 0) rfl (pd_var 9 rfl) pd_int) (ad_cons (pd_ixT (i := 1) rfl (pd_var 9 rfl) pd_int) (ad_cons (pd_dgetD (G.Room.units65 hr) (pd_var 3 rfl) (pd_var 9 rfl) (df_tget (kT2_inj kI_inj kI_inj) found_28 a41 (/- side 17 -/ by exact hasK_iff.mpr ha))) ad_nil))))), (by repeat (first | exact Le.nil | apply Le.eq | apply Le.un)), (by repeat (first | exact Le.nil | apply Le.eq | apply Le.un))⟩)) sc__law_given.nd))) srcN)) ?_)
  show ((dL (dT3 PyData.int PyData.int PyData.int)) (srtD (dT3 PyData.int PyData.int PyData.int) ((found_28.map (·.1)).map (fun (a41 : (Int × Int)) => (a41.1, a41.2, (gD found_28 a41)))))) = ((dL (dT3 PyData.int PyData.int PyData.int)) (m_allotted has_ asks_))
  refine congrArg (dL (dT3 PyData.int PyData.int PyData.int)) (?_ : ((srtD (dT3 PyData.int PyData.int PyData.int) ((found_28.map (·.1)).map (fun (a41 : (Int × Int)) => (a41.1, a41.2, (gD found_28 a41))))) : (List (Int × Int × Int))) = (m_allotted has_ asks_))
  rw [hE2, rows_of JE.nd]; rfl
theorem c__law_given (Y : Py P K mg) : Cal P w K mg base 1 "_law_given" (spD K S__law_given) [] := by
  obtain ⟨fd, F⟩ := Y.d__law_given
  exact ⟨_, fd, _, [], f__law_given Y F, Y.g__law_given, F.kp, F.bindsN (ps := [("has" : Str), ("asks" : Str)]) fun _ _ _ _ _ _ us hl => match us, hl with | [_, _], _ => rfl, .nil⟩
end
end GP
namespace GP
open PySem PySem.Spec PyProof.Rows L2 G
section
variable {P : Program} {w : World} {K : PySem.W.Frag} {mg : Str → Option Value} {base : Heap}

def S_raised (ds : List PyData) (r : Res) : Prop := ∃ (told_ : (List (Int × Int × Int))), ds = [((dL (dT3 PyData.int PyData.int PyData.int)) told_)] ∧ (told_.length ≤ 10000 ∧ ∀ r ∈ told_, (0 ≤ r.1 ∧ r.1 ≤ 1000) ∧ (0 ≤ r.2.1 ∧ r.2.1 ≤ 1000)) ∧ r = .ret (PyData.int (m_raised told_))
theorem f_raised (Y : Py P K mg) {fd : FuncData} (F : FunD K "raised" "raised" (defArgs s_raised) (defBody s_raised) (defScope s_raised) [] [] (He.ga K "raised") fd) : FnOk P w K mg base (L2N.CX P w) 1 (He.ga K "raised") fd [("told" : Str)] (spD K S_raised) := by
  refine fn_DD F sc_raised (fun ds r h => by obtain ⟨_, rfl, _⟩ := h; rfl) (by decide) (fun cdv A outer s H E hr ds r h => ?_)
  obtain ⟨told_, rfl, pre, rfl⟩ := h
  refine bd_env (ρ' := [.d ((dL (dT3 PyData.int PyData.int PyData.int)) told_), .un, .un, .un]) rfl ?_
  refine bd_one (sd_ret (x := (PyData.int ((told_.map (fun (a51 : (Int × Int × Int)) => ((a51.1 - a51.2.1) * a51.2.2))).sum))) (pd_sumD (ns := (told_.map (fun (a51 : (Int × Int × Int)) => ((a51.1 - a51.2.1) * a51.2.2)))) rfl Y.z_sum (pd_n (pn_lc (lcN told_ (dT3 PyData.int PyData.int PyData.int) PyData.int (fun (a51 : (Int × Int × Int)) => ((a51.1 - a51.2.1) * a51.2.2)) (blkOk_by (own := [("sort", 1), ("asked", 2), ("loads", 3)]) (show blkC n_raised (defScope s_raised) _ _ = true by decide +kernel)) (id_listD (f := (dT3 PyData.int PyData.int PyData.int)) (ns := told_) (pd_var 0 rfl)) (/- side 1 -/ by omega) (by intro _ h; cases h) (by trivial) (fun a51 ha => ⟨_, _, (fun Z hZ => by obtain ⟨s1, H1, C1, cl1, fp1, rfl⟩ := hZ; exact (gv_tup rfl (gsv_cons (gv_name 1 (by decide) sc_raised.nd) (gsv_cons (gv_name 2 (by decide) sc_raised.nd) (gsv_cons (gv_name 3 (by decide) sc_raised.nd) gsv_nil))))), (fun Z hZ => by obtain ⟨s1, H1, C1, cl1, fp1, rfl⟩ := hZ; exact (pd_mul (/- side 0 -/ by have h9 := pre.2 _ ha; exact .inl (by omega)) (pd_sub (pd_var 1 rfl) (pd_var 2 rfl)) (pd_var 3 rfl))), (by repeat (first | exact Le.nil | apply Le.eq | apply Le.un)), (by repeat (first | exact Le.nil | apply Le.eq | apply Le.un))⟩)) sc_raised.nd))) ?_)
  show (PyData.int ((told_.map (fun (a51 : (Int × Int × Int)) => ((a51.1 - a51.2.1) * a51.2.2))).sum)) = (PyData.int (m_raised told_))
  refine congrArg PyData.int (?_ : ((told_.map (fun (a51 : (Int × Int × Int)) => ((a51.1 - a51.2.1) * a51.2.2))).sum : Int) = (m_raised told_))
  rfl
theorem c_raised (Y : Py P K mg) : Cal P w K mg base 1 "raised" (spD K S_raised) [] := by
  obtain ⟨fd, F⟩ := Y.d_raised
  exact ⟨_, fd, _, [], f_raised Y F, Y.g_raised, F.kp, F.bindsN (ps := [("told" : Str)]) fun _ _ _ _ _ _ us hl => match us, hl with | [_], _ => rfl, .nil⟩
end
end GP
namespace GP
open PySem PySem.Spec PyProof.Rows L2 G
section
variable {P : Program} {w : World} {K : PySem.W.Frag} {mg : Str → Option Value} {base : Heap}

def S_kept (ds : List PyData) (r : Res) : Prop := ∃ (has_ : (List Int)) (asks_ : (List Int)), ds = [((dL PyData.int) has_), ((dL PyData.int) asks_)] ∧ ((Am has_ ∧ Am asks_ ∧ has_.length = asks_.length) ∧ ∀ r ∈ m_allotted has_ asks_, 0 ≤ r.1 ∧ r.1 < (has_.length : Int)) ∧ r = .own (.l ((m_kept has_ asks_).map PyData.int))
theorem f_kept (Y : Py P K mg) {fd : FuncData} (F : FunD K "kept" "kept" (defArgs s_kept) (defBody s_kept) (defScope s_kept) [] [] (He.ga K "kept") fd) : FnOk P w K mg base (L2N.CX P w) 6 (He.ga K "kept") fd [("has" : Str), ("asks" : Str)] (spD K S_kept) := by
  refine fn_DD F sc_kept (fun ds r h => by obtain ⟨_, _, rfl, _⟩ := h; rfl) (by decide) (fun cdv A outer s H E hr ds r h => ?_)
  obtain ⟨has_, asks_, rfl, pre, rfl⟩ := h
  refine bd_env (ρ' := [.d ((dL PyData.int) has_), .d ((dL PyData.int) asks_), .un, .un, .un, .un]) rfl ?_
  obtain ⟨⟨ph, pa, pl⟩, pr⟩ := pre
  have phl := ph.len
  have pal := pa.len
  refine bd_seq (sd_setN 2 (pn_call (c_checked_amounts Y) hr .nil (ad_cons (pd_var 0 rfl) ad_nil) ⟨has_, rfl, (/- side 0 -/ by exact ph), rfl⟩) rfl sc_kept.nd) ?_
  refine bd_env (ρ' := [.d ((dL PyData.int) has_), .d ((dL PyData.int) asks_), .ol ((id has_).map PyData.int), .un, .un, .un]) rfl ?_
  -- for for sort, asked, loads in allotted(has, asks):
  refine bd_cut (fun r : En => ∃ (first_52 : (List Int)), (first_52 = kp ((m_allotted has_ asks_).take (m_allotted has_ asks_).length) has_) ∧ r = [.d ((dL PyData.int) has_), .d ((dL PyData.int) asks_), .ol (first_52.map PyData.int), .un, .un, .un]) (sd_forM (m_allotted has_ asks_) (dT3 PyData.int PyData.int PyData.int) (fun (i5 : Nat) (r : En) => ∃ (first_52 : (List Int)), (first_52 = kp ((m_allotted has_ asks_).take i5) has_) ∧ r = [.d ((dL PyData.int) has_), .d ((dL PyData.int) asks_), .ol (first_52.map PyData.int), .un, .un, .un]) (passes_of rfl) rfl (id_listD (f := (dT3 PyData.int PyData.int PyData.int)) (ns := (m_allotted has_ asks_)) (pd_call (c_allotted Y) hr .nil (ad_cons (pd_var 0 rfl) (ad_cons (pd_var 1 rfl) ad_nil)) ⟨has_, asks_, rfl, (/- side 1 -/ by exact ⟨ph, pa, pl⟩), rfl⟩)) ⟨_, (by repeat (first | exact Le.nil | apply Le.eq | apply Le.un)), ⟨(id has_), (by rfl), rfl⟩⟩ (fun _ _ _ => trivial) (fun i5 a5 r ha_a5 hI => ?_) (fun r h => h)) ?_
  · obtain ⟨first_52, hI53, rfl⟩ := hI
    have hm_a5 := List.mem_of_getElem? ha_a5
    refine ⟨_, (gd_tup rfl (gsd_cons (gd_name 3 sc_kept.nd) (gsd_cons (gd_name 4 sc_kept.nd) (gsd_cons (gd_name 5 sc_kept.nd) gsd_nil)))), ?_⟩
    refine bd_env (ρ' := [.d ((dL PyData.int) has_), .d ((dL PyData.int) asks_), .ol (first_52.map PyData.int), .d (PyData.int (a5.1)), .d (PyData.int (a5.2.1)), .d (PyData.int (a5.2.2))]) rfl ?_
    have hI7 := hI53
    have ha7 := ha_a5
    have hm7 := hm_a5
    have hr7 := pr _ hm7
    have hl7 : (first_52).length = has_.length := by rw [hI7]; exact kp_len _ _
    refine bd_seq (sd_setixM (f := PyData.int) (ns := first_52) (ix := (a5.1)) (v := ((gI first_52 (a5.1)) - a5.2.2)) 2 (pd_sub (pd_gixO (f := PyData.int) (ns := first_52) (i := (a5.1)) 2 rfl (pd_var 3 rfl) rfl (/- side 2 -/ by omega)) (pd_var 5 rfl)) rfl (pd_var 3 rfl) rfl (/- side 3 -/ by omega) rfl) ?_
    refine bd_env (ρ' := [.d ((dL PyData.int) has_), .d ((dL PyData.int) asks_), .ol ((setI first_52 (a5.1) ((gI first_52 (a5.1)) - a5.2.2)).map PyData.int), .d (PyData.int (a5.1)), .d (PyData.int (a5.2.1)), .d (PyData.int (a5.2.2))]) rfl ?_
    exact bd_nil ⟨_, (by repeat (first | exact Le.nil | apply Le.eq | apply Le.un)), ⟨(setI first_52 (a5.1) ((gI first_52 (a5.1)) - a5.2.2)), (by rw [hI7, take_succ_of ha7]; unfold kp; rw [List.foldl_append]; rfl), rfl⟩⟩
  rintro r ⟨first_52, hI53, rfl⟩
  have hE := hI53
  rw [List.take_length] at hE
  exact bd_one (sd_retV 2 rfl (by show Ct.l _ = Ct.l _; exact congrArg (fun z : (List Int) => Ct.l (z.map PyData.int)) (show (first_52 : (List Int)) = (m_kept has_ asks_) by exact hE)))
theorem c_kept (Y : Py P K mg) : Cal P w K mg base 6 "kept" (spD K S_kept) [] := by
  obtain ⟨fd, F⟩ := Y.d_kept
  exact ⟨_, fd, _, [], f_kept Y F, Y.g_kept, F.kp, F.bindsN (ps := [("has" : Str), ("asks" : Str)]) fun _ _ _ _ _ _ us hl => match us, hl with | [_, _], _ => rfl, .nil⟩
end
end GP
namespace GP
open PySem PySem.Spec PyProof.Rows L2 G
section
variable {P : Program} {w : World} {K : PySem.W.Frag} {mg : Str → Option Value} {base : Heap}

def S_least_raised (ds : List PyData) (r : Res) : Prop := ∃ (has_ : (List Int)) (asks_ : (List Int)), ds = [((dL PyData.int) has_), ((dL PyData.int) asks_)] ∧ (((Am has_ ∧ Am asks_ ∧ has_.length = asks_.length) ∧ m_fits has_ asks_ = true) ∧ (m_allotted has_ asks_).length ≤ 10000 ∧ ∀ r ∈ m_allotted has_ asks_, (0 ≤ r.1 ∧ r.1 ≤ 1000) ∧ (0 ≤ r.2.1 ∧ r.2.1 ≤ 1000)) ∧ r = .ret (PyData.int ((fun h a => m_raised (m_allotted h a)) has_ asks_))
theorem f_least_raised (Y : Py P K mg) {fd : FuncData} (F : FunD K "least_raised" "least_raised" (defArgs s_least_raised) (defBody s_least_raised) (defScope s_least_raised) [] [] (He.ga K "least_raised") fd) : FnOk P w K mg base (L2N.CX P w) 7 (He.ga K "least_raised") fd [("has" : Str), ("asks" : Str)] (spD K S_least_raised) := by
  refine fn_DD F sc_least_raised (fun ds r h => by obtain ⟨_, _, rfl, _⟩ := h; rfl) (by decide) (fun cdv A outer s H E hr ds r h => ?_)
  obtain ⟨has_, asks_, rfl, pre, rfl⟩ := h
  refine bd_env (ρ' := [.d ((dL PyData.int) has_), .d ((dL PyData.int) asks_), .un, .un]) rfl ?_
  obtain ⟨⟨⟨ph, pa, pl⟩, pf⟩, pr⟩ := pre
  refine bd_seq (sd_unpackQ 2 3 (c_checked_pair Y) hr .nil (ad_cons (pd_var 0 rfl) (ad_cons (pd_var 1 rfl) ad_nil)) ⟨has_, asks_, rfl, (/- side 0 -/ by exact ⟨ph, pa, pl⟩), .inl rfl⟩ (by decide) rfl rfl sc_least_raised.nd) ?_
  refine bd_env (ρ' := [.d ((dL PyData.int) has_), .d ((dL PyData.int) asks_), .ol (has_.map PyData.int), .ol (asks_.map PyData.int)]) rfl ?_
  -- hk54: if not fits(first, second)
  refine bd_guard (k := false) (td_cast (k := (!(m_fits has_ asks_))) (by rw [pf]; rfl) (td_not (td_val (pd_call (c_fits Y) hr .nil (ad_cons (pd_thaw 2 rfl) (ad_cons (pd_thaw 3 rfl) ad_nil)) ⟨has_, asks_, rfl, (/- side 1 -/ by exact ⟨ph, pa, pl⟩), rfl⟩)))) (fun h => nomatch h) (fun _ => ?_)
  refine bd_one (sd_ret (x := (PyData.int (m_raised (m_allotted has_ asks_)))) (pd_call (c_raised Y) hr .nil (ad_cons (pd_call (c_allotted Y) hr .nil (ad_cons (pd_var 2 rfl) (ad_cons (pd_var 3 rfl) ad_nil)) ⟨has_, asks_, rfl, (/- side 2 -/ by exact ⟨ph, pa, pl⟩), rfl⟩) ad_nil) ⟨(m_allotted has_ asks_), rfl, (/- side 3 -/ by exact pr), rfl⟩) ?_)
  show (PyData.int (m_raised (m_allotted has_ asks_))) = (PyData.int ((fun h a => m_raised (m_allotted h a)) has_ asks_))
  refine congrArg PyData.int (?_ : ((m_raised (m_allotted has_ asks_)) : Int) = ((fun h a => m_raised (m_allotted h a)) has_ asks_))
  rfl
theorem c_least_raised (Y : Py P K mg) : Cal P w K mg base 7 "least_raised" (spD K S_least_raised) [] := by
  obtain ⟨fd, F⟩ := Y.d_least_raised
  exact ⟨_, fd, _, [], f_least_raised Y F, Y.g_least_raised, F.kp, F.bindsN (ps := [("has" : Str), ("asks" : Str)]) fun _ _ _ _ _ _ us hl => match us, hl with | [_, _], _ => rfl, .nil⟩
end
end GP
namespace GP
open PySem PySem.Spec PyProof.Rows L2 G
section
variable {P : Program} {w : World} {K : PySem.W.Frag} {mg : Str → Option Value} {base : Heap}

def S_mixed (ds : List PyData) (r : Res) : Prop := ∃ (has_ : (List Int)) (low_ : Int) (high_ : Int) (loads_ : Int), ds = [((dL PyData.int) has_), (PyData.int low_), (PyData.int high_), (PyData.int loads_)] ∧ (Am has_ ∧ (0 ≤ low_ ∧ low_ ≤ high_ ∧ high_ < (has_.length : Int)) ∧ 0 ≤ loads_ ∧ loads_ ≤ gI has_ high_) ∧ r = .own (.l ((m_mixed has_ low_ high_ loads_).map PyData.int))
theorem f_mixed (Y : Py P K mg) {fd : FuncData} (F : FunD K "mixed" "mixed" (defArgs s_mixed) (defBody s_mixed) (defScope s_mixed) [] [] (He.ga K "mixed") fd) : FnOk P w K mg base (L2N.CX P w) 4 (He.ga K "mixed") fd [("has" : Str), ("low" : Str), ("high" : Str), ("loads" : Str)] (spD K S_mixed) := by
  refine fn_DD F sc_mixed (fun ds r h => by obtain ⟨_, _, _, _, rfl, _⟩ := h; rfl) (by decide) (fun cdv A outer s H E hr ds r h => ?_)
  obtain ⟨has_, low_, high_, loads_, rfl, pre, rfl⟩ := h
  refine bd_env (ρ' := [.d ((dL PyData.int) has_), .d (PyData.int low_), .d (PyData.int high_), .d (PyData.int loads_), .un]) rfl ?_
  obtain ⟨ph, ⟨p1, p2, p3⟩, p4, p5⟩ := pre
  have phl := ph.len
  have pb := ph.bd _ (gI_mem (xs := has_) (i := high_) (by omega))
  refine bd_seq (sd_setN 4 (pn_call (c_checked_amounts Y) hr .nil (ad_cons (pd_var 0 rfl) ad_nil) ⟨has_, rfl, (/- side 0 -/ by exact ph), rfl⟩) rfl sc_mixed.nd) ?_
  refine bd_env (ρ' := [.d ((dL PyData.int) has_), .d (PyData.int low_), .d (PyData.int high_), .d (PyData.int loads_), .ol ((id has_).map PyData.int)]) rfl ?_
  -- hk55: if not is_number(low, 0, len(first) - 1) or not is_number(high, low, len(first) - 1)
  refine bd_guard (k := false) (td_cast (k := ((!(isNum (PyData.int low_) 0 (((id has_).length : Int) - 1))) || (!(isNum (PyData.int high_) low_ (((id has_).length : Int) - 1))))) (by rw [isNum_int, isNum_int]; simp; omega) (td_w (wd_or (td_not (td_val (pd_call (c_is_number_3 Y) hr .nil (ad_cons (pd_var 1 rfl) (ad_cons pd_int (ad_cons (pd_sub (pd_lenO (f := PyData.int) (ns := (id has_)) 4 Y.z_len rfl) pd_int) ad_nil))) ⟨(PyData.int low_), 0, (((id has_).length : Int) - 1), rfl, rfl, rfl⟩))) (fun hw => (wd_or1 (td_not (td_val (pd_call (c_is_number_3 Y) hr .nil (ad_cons (pd_var 2 rfl) (ad_cons (pd_var 1 rfl) (ad_cons (pd_sub (pd_lenO (f := PyData.int) (ns := (id has_)) 4 Y.z_len rfl) pd_int) ad_nil))) ⟨(PyData.int high_), low_, (((id has_).length : Int) - 1), rfl, rfl, rfl⟩)))))))) (fun h => nomatch h) (fun _ => ?_)
  -- hk56: if first[high] < checked_number(loads)
  refine bd_guard (k := false) (td_cast (k := (decide ((gI (id has_) high_) < loads_))) (by exact decide_eq_false (by first | omega | (simp only [id_eq]; omega))) (td_lt (pd_gixO (f := PyData.int) (ns := (id has_)) (i := high_) 4 rfl (pd_var 2 rfl) rfl (/- side 1 -/ by first | omega | (simp only [id_eq]; omega))) (pd_call (c_checked_number_1 Y) hr (.int (.int .nil)) (ad_cons (pd_var 3 rfl) ad_nil) ⟨(PyData.int loads_), 0, 1000000, rfl, ⟨rfl, (/- side 2 -/ by first | exact sml_of (by omega) (by omega) | decide), (/- side 3 -/ by first | exact sml_of (by omega) (by omega) | decide)⟩, chk_ok (/- side 4 -/ by omega)⟩))) (fun h => nomatch h) (fun _ => ?_)
  refine bd_seq (sd_setixM (f := PyData.int) (ns := (id has_)) (ix := high_) (v := ((gI (id has_) high_) - loads_)) 4 (pd_sub (pd_gixO (f := PyData.int) (ns := (id has_)) (i := high_) 4 rfl (pd_var 2 rfl) rfl (/- side 5 -/ by first | omega | (simp only [id_eq]; omega))) (pd_var 3 rfl)) rfl (pd_var 2 rfl) rfl (/- side 6 -/ by first | omega | (simp only [id_eq]; omega)) rfl) ?_
  refine bd_env (ρ' := [.d ((dL PyData.int) has_), .d (PyData.int low_), .d (PyData.int high_), .d (PyData.int loads_), .ol ((setI (id has_) high_ ((gI (id has_) high_) - loads_)).map PyData.int)]) rfl ?_
  refine bd_seq (sd_setixM (f := PyData.int) (ns := (setI (id has_) high_ ((gI (id has_) high_) - loads_))) (ix := low_) (v := ((gI (setI (id has_) high_ ((gI (id has_) high_) - loads_)) low_) + loads_)) 4 (pd_add (pd_gixO (f := PyData.int) (ns := (setI (id has_) high_ ((gI (id has_) high_) - loads_))) (i := low_) 4 rfl (pd_var 1 rfl) rfl (/- side 7 -/ by rw [setI_len]; first | omega | (simp only [id_eq]; omega))) (pd_var 3 rfl)) rfl (pd_var 1 rfl) rfl (/- side 8 -/ by rw [setI_len]; first | omega | (simp only [id_eq]; omega)) rfl) ?_
  refine bd_env (ρ' := [.d ((dL PyData.int) has_), .d (PyData.int low_), .d (PyData.int high_), .d (PyData.int loads_), .ol ((setI (setI (id has_) high_ ((gI (id has_) high_) - loads_)) low_ ((gI (setI (id has_) high_ ((gI (id has_) high_) - loads_)) low_) + loads_)).map PyData.int)]) rfl ?_
  exact bd_one (sd_retV 4 rfl (by show Ct.l _ = Ct.l _; exact congrArg (fun z : (List Int) => Ct.l (z.map PyData.int)) (show ((setI (setI (id has_) high_ ((gI (id has_) high_) - loads_)) low_ ((gI (setI (id has_) high_ ((gI (id has_) high_) - loads_)) low_) + loads_)) : (List Int)) = (m_mixed has_ low_ high_ loads_) by rfl)))
theorem c_mixed (Y : Py P K mg) : Cal P w K mg base 4 "mixed" (spD K S_mixed) [] := by
  obtain ⟨fd, F⟩ := Y.d_mixed
  exact ⟨_, fd, _, [], f_mixed Y F, Y.g_mixed, F.kp, F.bindsN (ps := [("has" : Str), ("low" : Str), ("high" : Str), ("loads" : Str)]) fun _ _ _ _ _ _ us hl => match us, hl with | [_, _, _, _], _ => rfl, .nil⟩
end
end GP
namespace GP
open PySem PySem.Spec PyProof.Rows L2 G
section
variable {P : Program} {w : World} {K : PySem.W.Frag} {mg : Str → Option Value} {base : Heap}

theorem am_set {xs : List Int} {s : Int} (h : Am xs) (h0 : 0 ≤ s) : Am (setI xs s 0) := ⟨by rw [setI_len]; exact h.len, fun x hx => by
  unfold setI at hx
  rw [if_neg (by omega)] at hx
  rcases List.mem_or_eq_of_mem_set hx with z | z
  · exact h.bd x z
  · omega⟩
theorem better_eq {a b : List Int} (hl : a.length = b.length) : (((List.range a.length).map fun k : Nat => decide ((cutG a (some (k : Int)) none).sum ≤ (cutG b (some (k : Int)) none).sum)).all fun b => b) = ((List.range a.length).map fun k : Nat => decide ((a.drop k).sum ≤ (b.drop k).sum)).all fun b => b := by
  congr 1
  refine List.map_congr_left fun k hk => ?_
  have := List.mem_range.mp hk
  rw [cutG_from _ _ (by omega), cutG_from _ _ (by omega)]
theorem dif_eq {a b : List Int} {s : Int} (hl : a.length = b.length) (h : 0 ≤ s ∧ s < (a.length : Int)) : (cutG b (some s) none).sum - (cutG a (some s) none).sum = dif a b s := by
  obtain ⟨n, rfl⟩ : ∃ n : Nat, s = (n : Int) := ⟨s.toNat, by omega⟩
  rw [cutG_from _ _ (by omega), cutG_from _ _ (by omega)]; rfl

def S_most_asked (ds : List PyData) (r : Res) : Prop := ∃ (has_ : (List Int)) (asks_ : (List Int)) (sort_ : Int), ds = [((dL PyData.int) has_), ((dL PyData.int) asks_), (PyData.int sort_)] ∧ ((Am has_ ∧ Am asks_ ∧ has_.length = asks_.length) ∧ 0 ≤ sort_ ∧ sort_ < (has_.length : Int)) ∧ r = .ret ((dO PyData.int) (m_most has_ asks_ sort_))
theorem f_most_asked (Y : Py P K mg) {fd : FuncData} (F : FunD K "most_asked" "most_asked" (defArgs s_most_asked) (defBody s_most_asked) (defScope s_most_asked) [] [] (He.ga K "most_asked") fd) : FnOk P w K mg base (L2N.CX P w) 6 (He.ga K "most_asked") fd [("has" : Str), ("asks" : Str), ("sort" : Str)] (spD K S_most_asked) := by
  refine fn_DD F sc_most_asked (fun ds r h => by obtain ⟨_, _, _, rfl, _⟩ := h; rfl) (by decide) (fun cdv A outer s H E hr ds r h => ?_)
  obtain ⟨has_, asks_, sort_, rfl, pre, rfl⟩ := h
  refine bd_env (ρ' := [.d ((dL PyData.int) has_), .d ((dL PyData.int) asks_), .d (PyData.int sort_), .un, .un, .un, .un]) rfl ?_
  obtain ⟨⟨ph, pa, pl⟩, p1, p2⟩ := pre
  have phl := ph.len
  refine bd_seq (sd_unpackQ 3 4 (c_checked_pair Y) hr .nil (ad_cons (pd_var 0 rfl) (ad_cons (pd_var 1 rfl) ad_nil)) ⟨has_, asks_, rfl, (/- side 0 -/ by exact ⟨ph, pa, pl⟩), .inl rfl⟩ (by decide) rfl rfl sc_most_asked.nd) ?_
  refine bd_env (ρ' := [.d ((dL PyData.int) has_), .d ((dL PyData.int) asks_), .d (PyData.int sort_), .ol (has_.map PyData.int), .ol (asks_.map PyData.int), .un, .un]) rfl ?_
  -- hk57: if not is_number(sort, 0, len(first) - 1)
  refine bd_guard (k := false) (td_cast (k := (!(isNum (PyData.int sort_) 0 ((has_.length : Int) - 1)))) (by rw [isNum_int]; simp; omega) (td_not (td_val (pd_call (c_is_number_3 Y) hr .nil (ad_cons (pd_var 2 rfl) (ad_cons pd_int (ad_cons (pd_sub (pd_lenO (f := PyData.int) (ns := has_) 3 Y.z_len rfl) pd_int) ad_nil))) ⟨(PyData.int sort_), 0, ((has_.length : Int) - 1), rfl, rfl, rfl⟩)))) (fun h => nomatch h) (fun _ => ?_)
  refine bd_seq (sd_setixM (f := PyData.int) (ns := asks_) (ix := sort_) (v := 0) 4 pd_int rfl (pd_var 2 rfl) rfl (/- side 1 -/ by omega) rfl) ?_
  refine bd_env (ρ' := [.d ((dL PyData.int) has_), .d ((dL PyData.int) asks_), .d (PyData.int sort_), .ol (has_.map PyData.int), .ol ((setI asks_ sort_ 0).map PyData.int), .un, .un]) rfl ?_
  refine bd_seq (sd_set 5 (pd_call (c_over Y) hr .nil (ad_cons (pd_thaw 3 rfl) (ad_cons (pd_thaw 4 rfl) ad_nil)) ⟨has_, (setI asks_ sort_ 0), rfl, (/- side 2 -/ by exact ⟨ph, am_set pa p1, by rw [setI_len]; exact pl⟩), rfl⟩) rfl sc_most_asked.nd) ?_
  refine bd_env (ρ' := [.d ((dL PyData.int) has_), .d ((dL PyData.int) asks_), .d (PyData.int sort_), .d ((dL PyData.int) has_), .d ((dL PyData.int) (setI asks_ sort_ 0)), .d ((dL PyData.int) (m_over has_ (setI asks_ sort_ 0))), .un]) rfl ?_
  obtain ⟨rows_58, hrows_58⟩ : ∃ z : (List Int), ((m_over has_ (setI asks_ sort_ 0)) : (List Int)) = z := ⟨_, rfl⟩
  refine bd_env (ρ' := [.d ((dL PyData.int) has_), .d ((dL PyData.int) asks_), .d (PyData.int sort_), .d ((dL PyData.int) has_), .d ((dL PyData.int) (setI asks_ sort_ 0)), .d ((dL PyData.int) rows_58), .un]) (by rw [← hrows_58]) ?_
  have rl : (rows_58).length = has_.length := by rw [← hrows_58]; exact over_len _ _
  have rE : m_over has_ (setI asks_ sort_ 0) = rows_58 := hrows_58
  refine bd_seq (sd_set 6 (pd_minD (ns := (cutG rows_58 none (some (sort_ + 1)))) rfl Y.z_min (/- side 3 -/ by rw [show sort_ + 1 = ((sort_.toNat + 1 : Nat) : Int) by omega, cutG_to _ _ (by omega), List.length_take]; omega) (pd_n (pn_sliceM (f := PyData.int) (ns := rows_58) (ol := none) (oh := (some (sort_ + 1))) (pq_d (pd_var 5 rfl)) od_none (od_some (pd_add (pd_var 2 rfl) pd_int)) srcN))) rfl sc_most_asked.nd) ?_
  refine bd_env (ρ' := [.d ((dL PyData.int) has_), .d ((dL PyData.int) asks_), .d (PyData.int sort_), .d ((dL PyData.int) has_), .d ((dL PyData.int) (setI asks_ sort_ 0)), .d ((dL PyData.int) rows_58), .d (PyData.int (lmin (cutG rows_58 none (some (sort_ + 1)))))]) rfl ?_
  refine bd_one (sd_ret (x := ((dO PyData.int) (if (decide ((lmin rows_58) < 0)) = true then none else (some (lmin (cutG rows_58 none (some (sort_ + 1)))))))) (pd_ift (dO PyData.int) none (some (lmin (cutG rows_58 none (some (sort_ + 1))))) (td_lt (pd_minD (ns := rows_58) rfl Y.z_min (/- side 4 -/ by omega) (pd_var 5 rfl)) pd_int) (fun hc59 => pd_non) (fun hc59 => (pd_var 6 rfl))) ?_)
  show ((dO PyData.int) (if (decide ((lmin rows_58) < 0)) = true then none else (some (lmin (cutG rows_58 none (some (sort_ + 1))))))) = ((dO PyData.int) (m_most has_ asks_ sort_))
  refine congrArg (dO PyData.int) (?_ : ((if (decide ((lmin rows_58) < 0)) = true then none else (some (lmin (cutG rows_58 none (some (sort_ + 1)))))) : (Option Int)) = (m_most has_ asks_ sort_))
  unfold m_most; rw [rE]
theorem c_most_asked (Y : Py P K mg) : Cal P w K mg base 6 "most_asked" (spD K S_most_asked) [] := by
  obtain ⟨fd, F⟩ := Y.d_most_asked
  exact ⟨_, fd, _, [], f_most_asked Y F, Y.g_most_asked, F.kp, F.bindsN (ps := [("has" : Str), ("asks" : Str), ("sort" : Str)]) fun _ _ _ _ _ _ us hl => match us, hl with | [_, _, _], _ => rfl, .nil⟩
def S_is_better (ds : List PyData) (r : Res) : Prop := ∃ (one_ : (List Int)) (other_ : (List Int)), ds = [((dL PyData.int) one_), ((dL PyData.int) other_)] ∧ (Am one_ ∧ Am other_ ∧ one_.length = other_.length) ∧ r = .ret (PyData.bool (m_is_better one_ other_))
theorem f_is_better (Y : Py P K mg) {fd : FuncData} (F : FunD K "is_better" "is_better" (defArgs s_is_better) (defBody s_is_better) (defScope s_is_better) [] [] (He.ga K "is_better") fd) : FnOk P w K mg base (L2N.CX P w) 5 (He.ga K "is_better") fd [("one" : Str), ("other" : Str)] (spD K S_is_better) := by
  refine fn_DD F sc_is_better (fun ds r h => by obtain ⟨_, _, rfl, _⟩ := h; rfl) (by decide) (fun cdv A outer s H E hr ds r h => ?_)
  obtain ⟨one_, other_, rfl, pre, rfl⟩ := h
  refine bd_env (ρ' := [.d ((dL PyData.int) one_), .d ((dL PyData.int) other_), .un, .un, .un]) rfl ?_
  obtain ⟨ph, pa, pl⟩ := pre
  have phl := ph.len
  refine bd_seq (sd_unpackQ 2 3 (c_checked_pair Y) hr .nil (ad_cons (pd_var 0 rfl) (ad_cons (pd_var 1 rfl) ad_nil)) ⟨one_, other_, rfl, (/- side 0 -/ by exact ⟨ph, pa, pl⟩), .inl rfl⟩ (by decide) rfl rfl sc_is_better.nd) ?_
  refine bd_env (ρ' := [.d ((dL PyData.int) one_), .d ((dL PyData.int) other_), .ol (one_.map PyData.int), .ol (other_.map PyData.int), .un]) rfl ?_
  -- hk60: if sum(first) != sum(second)
  refine bd_guard (k := (!(decide (one_.sum = other_.sum)))) (td_neI (pd_sumD (ns := one_) rfl Y.z_sum (pd_thaw 2 rfl)) (pd_sumD (ns := other_) rfl Y.z_sum (pd_thaw 3 rfl))) (fun hk60 => ?_) (fun hk60 => ?_)
  · skip
    have hk60f := hk60; try simp only [decide_eq_true_eq, decide_eq_false_iff_not, Bool.and_eq_true, Bool.or_eq_true, Bool.not_eq_true', Bool.not_eq_false', Bool.and_eq_false_iff, Bool.or_eq_false_iff, Bool.not_true, Bool.not_false, List.isEmpty_iff] at hk60f
    have hk8 := hk60f
    refine bd_one (sd_ret (x := (PyData.bool false)) pd_bl ?_)
    show (PyData.bool false) = (PyData.bool (m_is_better one_ other_))
    refine congrArg PyData.bool (?_ : (false : Bool) = (m_is_better one_ other_))
    unfold m_is_better; rw [decide_eq_false hk8]; rfl
  · skip
    have hk60f := hk60; try simp only [decide_eq_true_eq, decide_eq_false_iff_not, Bool.and_eq_true, Bool.or_eq_true, Bool.not_eq_true', Bool.not_eq_false', Bool.and_eq_false_iff, Bool.or_eq_false_iff, Bool.not_true, Bool.not_false, List.isEmpty_iff] at hk60f
    have hk8 := hk60f
    refine bd_one (sd_ret (x := (PyData.bool (((List.range (one_.length)).map (fun (a61 : Nat) => (decide ((cutG one_ (some (a61 : Int)) none).sum ≤ (cutG other_ (some (a61 : Int)) none).sum)))).all (fun b => b)))) (pd_allD (bs := ((List.range (one_.length)).map (fun (a61 : Nat) => (decide ((cutG one_ (some (a61 : Int)) none).sum ≤ (cutG other_ (some (a61 : Int)) none).sum))))) rfl Y.z_all (pd_n (pn_lc (lcN (List.range (one_.length)) (fun i : Nat => PyData.int (i : Int)) PyData.bool (fun (a61 : Nat) => (decide ((cutG one_ (some (a61 : Int)) none).sum ≤ (cutG other_ (some (a61 : Int)) none).sum))) (blkOk_by (own := [("sort", 4)]) (show blkC n_is_better (defScope s_is_better) _ _ = true by decide +kernel)) (id_range0 Y.z_range (pd_lenD (f := PyData.int) (ns := one_) Y.z_len (pd_var 2 rfl)) (/- side 1 -/ by first | omega | (simp; omega))) (/- side 2 -/ by rw [List.length_range]; omega) (by intro _ h; cases h) (by trivial) (fun a61 ha => ⟨_, _, (fun Z hZ => by obtain ⟨s1, H1, C1, cl1, fp1, rfl⟩ := hZ; exact (gv_name 4 (by decide) sc_is_better.nd)), (fun Z hZ => by obtain ⟨s1, H1, C1, cl1, fp1, rfl⟩ := hZ; exact (pd_le (pd_sumD (ns := (cutG one_ (some (a61 : Int)) none)) rfl Y.z_sum (pd_n (pn_sliceM (f := PyData.int) (ns := one_) (ol := (some (a61 : Int))) (oh := none) (pq_d (pd_var 2 rfl)) (od_some (pd_var 4 rfl)) od_none srcN))) (pd_sumD (ns := (cutG other_ (some (a61 : Int)) none)) rfl Y.z_sum (pd_n (pn_sliceM (f := PyData.int) (ns := other_) (ol := (some (a61 : Int))) (oh := none) (pq_d (pd_var 3 rfl)) (od_some (pd_var 4 rfl)) od_none srcN))))), (by repeat (first | exact Le.nil | apply Le.eq | apply Le.un)), (by repeat (first | exact Le.nil | apply Le.eq | apply Le.un))⟩)) sc_is_better.nd))) ?_)
    show (PyData.bool (((List.range (one_.length)).map (fun (a61 : Nat) => (decide ((cutG one_ (some (a61 : Int)) none).sum ≤ (cutG other_ (some (a61 : Int)) none).sum)))).all (fun b => b))) = (PyData.bool (m_is_better one_ other_))
    refine congrArg PyData.bool (?_ : ((((List.range (one_.length)).map (fun (a61 : Nat) => (decide ((cutG one_ (some (a61 : Int)) none).sum ≤ (cutG other_ (some (a61 : Int)) none).sum)))).all (fun b => b)) : Bool) = (m_is_better one_ other_))
    unfold m_is_better; rw [decide_eq_true hk8, Bool.true_and]; exact better_eq pl
theorem c_is_better (Y : Py P K mg) : Cal P w K mg base 5 "is_better" (spD K S_is_better) [] := by
  obtain ⟨fd, F⟩ := Y.d_is_better
  exact ⟨_, fd, _, [], f_is_better Y F, Y.g_is_better, F.kp, F.bindsN (ps := [("one" : Str), ("other" : Str)]) fun _ _ _ _ _ _ us hl => match us, hl with | [_, _], _ => rfl, .nil⟩
def S_steps (ds : List PyData) (r : Res) : Prop := ∃ (one_ : (List Int)) (other_ : (List Int)), ds = [((dL PyData.int) one_), ((dL PyData.int) other_)] ∧ (((Am one_ ∧ Am other_ ∧ one_.length = other_.length) ∧ 0 < one_.length) ∧ m_is_better one_ other_ = true) ∧ r = .ret ((dL (dT2 PyData.int PyData.int)) (m_steps one_ other_))
theorem f_steps (Y : Py P K mg) {fd : FuncData} (F : FunD K "steps" "steps" (defArgs s_steps) (defBody s_steps) (defScope s_steps) [] [] (He.ga K "steps") fd) : FnOk P w K mg base (L2N.CX P w) 6 (He.ga K "steps") fd [("one" : Str), ("other" : Str)] (spD K S_steps) := by
  refine fn_DD F sc_steps (fun ds r h => by obtain ⟨_, _, rfl, _⟩ := h; rfl) (by decide) (fun cdv A outer s H E hr ds r h => ?_)
  obtain ⟨one_, other_, rfl, pre, rfl⟩ := h
  refine bd_env (ρ' := [.d ((dL PyData.int) one_), .d ((dL PyData.int) other_), .un, .un, .un]) rfl ?_
  obtain ⟨⟨⟨ph, pa, pl⟩, p0⟩, pb⟩ := pre
  have phl := ph.len
  -- hk62: if not is_better(one, other)
  refine bd_guard (k := false) (td_cast (k := (!(m_is_better one_ other_))) (by rw [pb]; rfl) (td_not (td_val (pd_call (c_is_better Y) hr .nil (ad_cons (pd_var 0 rfl) (ad_cons (pd_var 1 rfl) ad_nil)) ⟨one_, other_, rfl, (/- side 0 -/ by exact ⟨ph, pa, pl⟩), rfl⟩)))) (fun h => nomatch h) (fun _ => ?_)
  refine bd_seq (sd_setN 2 (pn_lst ad_nil) rfl sc_steps.nd) ?_
  refine bd_env (ρ' := [.d ((dL PyData.int) one_), .d ((dL PyData.int) other_), .ol ([].map (dT2 PyData.int PyData.int)), .un, .un]) rfl ?_
  -- for for sort in range(len(one) - 1, 0, -1):
  refine bd_cut (fun r : En => ∃ (found_63 : (List (Int × Int))), (found_63 = stl one_ other_ (rgDn ((one_.length : Int) - 1) 0).length) ∧ r = [.d ((dL PyData.int) one_), .d ((dL PyData.int) other_), .ol (found_63.map (dT2 PyData.int PyData.int)), .un, .un]) (sd_forM (rgDn ((one_.length : Int) - 1) 0) PyData.int (fun (i5 : Nat) (r : En) => ∃ (found_63 : (List (Int × Int))), (found_63 = stl one_ other_ i5) ∧ r = [.d ((dL PyData.int) one_), .d ((dL PyData.int) other_), .ol (found_63.map (dT2 PyData.int PyData.int)), .un, .un]) (passes_of rfl) rfl (id_rangeDn (m := ((one_.length : Int) - 1)) (n := 0) Y.z_range (pd_sub (pd_lenD (f := PyData.int) (ns := one_) Y.z_len (pd_var 0 rfl)) pd_int) pd_int (pd_neg pd_int) (/- side 1 -/ by omega) (/- side 2 -/ by omega) (/- side 3 -/ by omega) (/- side 4 -/ by omega)) ⟨_, (by repeat (first | exact Le.nil | apply Le.eq | apply Le.un)), ⟨[], (by rfl), rfl⟩⟩ (fun _ _ _ => trivial) (fun i5 a5 r ha_a5 hI => ?_) (fun r h => h)) ?_
  · obtain ⟨found_63, hI64, rfl⟩ := hI
    have hm_a5 := List.mem_of_getElem? ha_a5
    refine ⟨_, (gd_name 3 sc_steps.nd), ?_⟩
    refine bd_env (ρ' := [.d ((dL PyData.int) one_), .d ((dL PyData.int) other_), .ol (found_63.map (dT2 PyData.int PyData.int)), .d (PyData.int a5), .un]) rfl ?_
    have hI7 := hI64
    have hi5 : i5 + 1 < one_.length := by have h9 := (List.getElem?_eq_some_iff.mp ha_a5).1; rw [rgDn_len] at h9; omega
    have hA : a5 = (one_.length : Int) - 1 - (i5 : Int) := by have h9 := ha_a5; rw [rgDn_get (by omega)] at h9; exact (Option.some.inj h9).symm
    have hl7 := stl_len one_ other_ i5 (by omega)
    refine bd_seq (sd_set 4 (pd_sub (pd_sumD (ns := (cutG other_ (some a5) none)) rfl Y.z_sum (pd_n (pn_sliceM (f := PyData.int) (ns := other_) (ol := (some a5)) (oh := none) (pq_d (pd_var 1 rfl)) (od_some (pd_var 3 rfl)) od_none srcN))) (pd_sumD (ns := (cutG one_ (some a5) none)) rfl Y.z_sum (pd_n (pn_sliceM (f := PyData.int) (ns := one_) (ol := (some a5)) (oh := none) (pq_d (pd_var 0 rfl)) (od_some (pd_var 3 rfl)) od_none srcN)))) rfl sc_steps.nd) ?_
    refine bd_env (ρ' := [.d ((dL PyData.int) one_), .d ((dL PyData.int) other_), .ol (found_63.map (dT2 PyData.int PyData.int)), .d (PyData.int a5), .d (PyData.int ((cutG other_ (some a5) none).sum - (cutG one_ (some a5) none).sum))]) rfl ?_
    obtain ⟨more_65, hmore_65⟩ : ∃ z : Int, (((cutG other_ (some a5) none).sum - (cutG one_ (some a5) none).sum) : Int) = z := ⟨_, rfl⟩
    refine bd_env (ρ' := [.d ((dL PyData.int) one_), .d ((dL PyData.int) other_), .ol (found_63.map (dT2 PyData.int PyData.int)), .d (PyData.int a5), .d (PyData.int more_65)]) (by rw [← hmore_65]) ?_
    have hM : dif one_ other_ a5 = more_65 := by rw [← hmore_65]; exact (dif_eq pl (by omega)).symm
    -- hk66: if more > 0
    refine bd_cut (fun r => ∃ (found_67 : (List (Int × Int))), (found_67 = stl one_ other_ (i5 + 1)) ∧ Le [.d ((dL PyData.int) one_), .d ((dL PyData.int) other_), .ol (found_67.map (dT2 PyData.int PyData.int)), .d (PyData.int a5), .d (PyData.int more_65)] r) (sd_if (k := (decide (0 < more_65))) (td_gt (pd_var 4 rfl) pd_int) (fun hk66 => ?_) (fun hk66 => ?_)) ?_
    · skip
      have hk66f := hk66; try simp only [decide_eq_true_eq, decide_eq_false_iff_not, Bool.and_eq_true, Bool.or_eq_true, Bool.not_eq_true', Bool.not_eq_false', Bool.and_eq_false_iff, Bool.or_eq_false_iff, Bool.not_true, Bool.not_false, List.isEmpty_iff] at hk66f
      refine bd_seq (sd_appendM (f := (dT2 PyData.int PyData.int)) (ns := found_63) (v := (a5, more_65)) 2 rfl (pd_tup (ad_cons (pd_var 3 rfl) (ad_cons (pd_var 4 rfl) ad_nil))) rfl (/- side 5 -/ by rw [hI7]; omega) rfl) ?_
      refine bd_env (ρ' := [.d ((dL PyData.int) one_), .d ((dL PyData.int) other_), .ol ((found_63 ++ [(a5, more_65)]).map (dT2 PyData.int PyData.int)), .d (PyData.int a5), .d (PyData.int more_65)]) rfl ?_
      exact bd_nil ⟨(found_63 ++ [(a5, more_65)]), (by rw [stl_succ one_ other_ hi5, ← hA, hM, if_pos (by omega), hI7]), (by repeat (first | exact Le.nil | apply Le.eq | apply Le.un))⟩
    · skip
      have hk66f := hk66; try simp only [decide_eq_true_eq, decide_eq_false_iff_not, Bool.and_eq_true, Bool.or_eq_true, Bool.not_eq_true', Bool.not_eq_false', Bool.and_eq_false_iff, Bool.or_eq_false_iff, Bool.not_true, Bool.not_false, List.isEmpty_iff] at hk66f
      exact bd_nil ⟨found_63, (by rw [stl_succ one_ other_ hi5, ← hA, hM, if_neg (by omega), hI7]), (by repeat (first | exact Le.nil | apply Le.eq | apply Le.un))⟩
    rintro r ⟨found_67, hj, hle⟩
    refine bd_le hle ?_
    clear hle
    have hR7 := hj
    exact bd_nil ⟨_, (by repeat (first | exact Le.nil | apply Le.eq | apply Le.un)), ⟨found_67, (by exact hR7), rfl⟩⟩
  rintro r ⟨found_63, hI64, rfl⟩
  have hE := hI64
  rw [rgDn_len, show ((one_.length : Int) - 1 - 0).toNat = one_.length - 1 by omega] at hE
  refine bd_one (sd_ret (x := ((dL (dT2 PyData.int PyData.int)) found_63)) (pd_thaw 2 rfl) ?_)
  show ((dL (dT2 PyData.int PyData.int)) found_63) = ((dL (dT2 PyData.int PyData.int)) (m_steps one_ other_))
  refine congrArg (dL (dT2 PyData.int PyData.int)) (?_ : (found_63 : (List (Int × Int))) = (m_steps one_ other_))
  exact hE
theorem c_steps (Y : Py P K mg) : Cal P w K mg base 6 "steps" (spD K S_steps) [] := by
  obtain ⟨fd, F⟩ := Y.d_steps
  exact ⟨_, fd, _, [], f_steps Y F, Y.g_steps, F.kp, F.bindsN (ps := [("one" : Str), ("other" : Str)]) fun _ _ _ _ _ _ us hl => match us, hl with | [_, _], _ => rfl, .nil⟩
end
end GP
namespace GP
open PySem PySem.Spec PyProof.Rows L2 G
section
variable {P : Program} {w : World} {K : PySem.W.Frag} {mg : Str → Option Value} {base : Heap}

def S__law_lowered (ds : List PyData) (r : Res) : Prop := ∃ (one_ : (List Int)) (other_ : (List Int)), ds = [((dL PyData.int) one_), ((dL PyData.int) other_)] ∧ (one_.length = other_.length ∧ 0 < one_.length ∧ one_.length ≤ 40) ∧ r = .ret ((dO (dL (dT2 PyData.int PyData.int))) (m__law_lowered one_ other_))
theorem f__law_lowered (Y : Py P K mg) {fd : FuncData} (F : FunD K "_law_lowered" "_law_lowered" (defArgs s__law_lowered) (defBody s__law_lowered) (defScope s__law_lowered) [] [] (He.ga K "_law_lowered") fd) : FnOk P w K mg base (L2N.CX P w) 1 (He.ga K "_law_lowered") fd [("one" : Str), ("other" : Str)] (spD K S__law_lowered) := by
  refine fn_DD F sc__law_lowered (fun ds r h => by obtain ⟨_, _, rfl, _⟩ := h; rfl) (by decide) (fun cdv A outer s H E hr ds r h => ?_)
  obtain ⟨one_, other_, rfl, pre, rfl⟩ := h
  refine bd_env (ρ' := [.d ((dL PyData.int) one_), .d ((dL PyData.int) other_), .un, .un, .un, .un, .un]) rfl ?_
  obtain ⟨pl, p0, p4⟩ := pre
  refine bd_seq (sd_setN 2 (pn_list Y.z_list (pq_d (pd_var 1 rfl)) srcN) rfl sc__law_lowered.nd) ?_
  refine bd_env (ρ' := [.d ((dL PyData.int) one_), .d ((dL PyData.int) other_), .ol (other_.map PyData.int), .un, .un, .un, .un]) rfl ?_
  refine bd_seq (sd_setN 3 (pn_lst ad_nil) rfl sc__law_lowered.nd) ?_
  refine bd_env (ρ' := [.d ((dL PyData.int) one_), .d ((dL PyData.int) other_), .ol (other_.map PyData.int), .ol ([].map (dT2 PyData.int PyData.int)), .un, .un, .un]) rfl ?_
  -- for for k in range(len(one) - 1):
  refine bd_cut (fun r : En => ∃ (found_42 : (List (Int × Int))) (left_43 : (List Int)), (Low one_ other_ (List.range (((one_.length : Int) - 1)).toNat).length left_43 found_42) ∧ r = [.d ((dL PyData.int) one_), .d ((dL PyData.int) other_), .ol (left_43.map PyData.int), .ol (found_42.map (dT2 PyData.int PyData.int)), .un, .un, .un]) (sd_forM (List.range (((one_.length : Int) - 1)).toNat) (fun i : Nat => PyData.int (i : Int)) (fun (i5 : Nat) (r : En) => ∃ (found_42 : (List (Int × Int))) (left_43 : (List Int)), (Low one_ other_ i5 left_43 found_42) ∧ r = [.d ((dL PyData.int) one_), .d ((dL PyData.int) other_), .ol (left_43.map PyData.int), .ol (found_42.map (dT2 PyData.int PyData.int)), .un, .un, .un]) (passes_of rfl) rfl (id_rangeI Y.z_range (pd_sub (pd_lenD (f := PyData.int) (ns := one_) Y.z_len (pd_var 0 rfl)) pd_int) (/- side 0 -/ by omega) (/- side 1 -/ by omega)) ⟨_, (by repeat (first | exact Le.nil | apply Le.eq | apply Le.un)), ⟨[], other_, (by exact low_zero pl p0), rfl⟩⟩ (fun _ _ _ => trivial) (fun i5 a44 r ha_a44 hI => ?_) (fun r h => h)) ?_
  · obtain ⟨found_42, left_43, hI45, rfl⟩ := hI
    obtain ⟨rfl, hi_i5⟩ := range_at ha_a44
    refine ⟨_, (gd_name 4 sc__law_lowered.nd), ?_⟩
    refine bd_env (ρ' := [.d ((dL PyData.int) one_), .d ((dL PyData.int) other_), .ol (left_43.map PyData.int), .ol (found_42.map (dT2 PyData.int PyData.int)), .d (PyData.int (i5 : Int)), .un, .un]) rfl ?_
    have hI7 := hI45
    have hi5 := hi_i5
    have hi6 : i5 + 1 < one_.length := by omega
    have hlen := hI7.len
    have hfl : (found_42).length ≤ i5 := by rw [hI7.fnd]; exact stl_len _ _ _ (by omega)
    refine bd_seq (sd_set 5 (pd_sub (pd_sub (pd_lenD (f := PyData.int) (ns := one_) Y.z_len (pd_var 0 rfl)) pd_int) (pd_var 4 rfl)) rfl sc__law_lowered.nd) ?_
    refine bd_env (ρ' := [.d ((dL PyData.int) one_), .d ((dL PyData.int) other_), .ol (left_43.map PyData.int), .ol (found_42.map (dT2 PyData.int PyData.int)), .d (PyData.int (i5 : Int)), .d (PyData.int (((one_.length : Int) - 1) - (i5 : Int))), .un]) rfl ?_
    refine bd_seq (sd_set 6 (pd_sub (pd_gixO (f := PyData.int) (ns := left_43) (i := (((one_.length : Int) - 1) - (i5 : Int))) 2 rfl (pd_var 5 rfl) rfl (/- side 2 -/ by omega)) (pd_gixD (f := PyData.int) (ns := one_) (i := (((one_.length : Int) - 1) - (i5 : Int))) (/- side 3 -/ by omega) (pd_var 0 rfl) (pd_var 5 rfl))) rfl sc__law_lowered.nd) ?_
    refine bd_env (ρ' := [.d ((dL PyData.int) one_), .d ((dL PyData.int) other_), .ol (left_43.map PyData.int), .ol (found_42.map (dT2 PyData.int PyData.int)), .d (PyData.int (i5 : Int)), .d (PyData.int (((one_.length : Int) - 1) - (i5 : Int))), .d (PyData.int ((gI left_43 (((one_.length : Int) - 1) - (i5 : Int))) - (gI one_ (((one_.length : Int) - 1) - (i5 : Int)))))]) rfl ?_
    obtain ⟨more_46, hmore_46⟩ : ∃ z : Int, (((gI left_43 (((one_.length : Int) - 1) - (i5 : Int))) - (gI one_ (((one_.length : Int) - 1) - (i5 : Int)))) : Int) = z := ⟨_, rfl⟩
    refine bd_env (ρ' := [.d ((dL PyData.int) one_), .d ((dL PyData.int) other_), .ol (left_43.map PyData.int), .ol (found_42.map (dT2 PyData.int PyData.int)), .d (PyData.int (i5 : Int)), .d (PyData.int (((one_.length : Int) - 1) - (i5 : Int))), .d (PyData.int more_46)]) (by rw [← hmore_46]) ?_
    have hM : dif one_ other_ ((one_.length : Int) - 1 - (i5 : Int)) = more_46 := by rw [← hmore_46]; exact (low_more pl hI7 hi6).symm
    -- hk47: if more < 0
    refine bd_guard (k := (decide (more_46 < 0))) (td_lt (pd_var 6 rfl) pd_int) (fun hk47 => ?_) (fun hk47 => ?_)
    · skip
      have hk47f := hk47; try simp only [decide_eq_true_eq, decide_eq_false_iff_not, Bool.and_eq_true, Bool.or_eq_true, Bool.not_eq_true', Bool.not_eq_false', Bool.and_eq_false_iff, Bool.or_eq_false_iff, Bool.not_true, Bool.not_false, List.isEmpty_iff] at hk47f
      have hk8 := hk47f
      refine bd_one (sd_ret (x := ((dO (dL (dT2 PyData.int PyData.int))) none)) pd_non ?_)
      show ((dO (dL (dT2 PyData.int PyData.int))) none) = ((dO (dL (dT2 PyData.int PyData.int))) (m__law_lowered one_ other_))
      refine congrArg (dO (dL (dT2 PyData.int PyData.int))) (?_ : (none : (Option (List (Int × Int)))) = (m__law_lowered one_ other_))
      unfold m__law_lowered; rw [low_no (a := one_) (b := other_) hi6 (by rw [hM]; exact hk8)]; rfl
    · skip
      have hk47f := hk47; try simp only [decide_eq_true_eq, decide_eq_false_iff_not, Bool.and_eq_true, Bool.or_eq_true, Bool.not_eq_true', Bool.not_eq_false', Bool.and_eq_false_iff, Bool.or_eq_false_iff, Bool.not_true, Bool.not_false, List.isEmpty_iff] at hk47f
      have hk8 := hk47f
      -- hk48: if more > 0
      refine bd_cut (fun r => ∃ (found_49 : (List (Int × Int))), (found_49 = stl one_ other_ (i5 + 1)) ∧ Le [.d ((dL PyData.int) one_), .d ((dL PyData.int) other_), .ol (left_43.map PyData.int), .ol (found_49.map (dT2 PyData.int PyData.int)), .d (PyData.int (i5 : Int)), .d (PyData.int (((one_.length : Int) - 1) - (i5 : Int))), .d (PyData.int more_46)] r) (sd_if (k := (decide (0 < more_46))) (td_gt (pd_var 6 rfl) pd_int) (fun hk48 => ?_) (fun hk48 => ?_)) ?_
      · skip
        have hk48f := hk48; try simp only [decide_eq_true_eq, decide_eq_false_iff_not, Bool.and_eq_true, Bool.or_eq_true, Bool.not_eq_true', Bool.not_eq_false', Bool.and_eq_false_iff, Bool.or_eq_false_iff, Bool.not_true, Bool.not_false, List.isEmpty_iff] at hk48f
        refine bd_seq (sd_appendM (f := (dT2 PyData.int PyData.int)) (ns := found_42) (v := ((((one_.length : Int) - 1) - (i5 : Int)), more_46)) 3 rfl (pd_tup (ad_cons (pd_var 5 rfl) (ad_cons (pd_var 6 rfl) ad_nil))) rfl (/- side 4 -/ by omega) rfl) ?_
        refine bd_env (ρ' := [.d ((dL PyData.int) one_), .d ((dL PyData.int) other_), .ol (left_43.map PyData.int), .ol ((found_42 ++ [((((one_.length : Int) - 1) - (i5 : Int)), more_46)]).map (dT2 PyData.int PyData.int)), .d (PyData.int (i5 : Int)), .d (PyData.int (((one_.length : Int) - 1) - (i5 : Int))), .d (PyData.int more_46)]) rfl ?_
        exact bd_nil ⟨(found_42 ++ [((((one_.length : Int) - 1) - (i5 : Int)), more_46)]), (by rw [stl_succ one_ other_ hi6, hM, if_pos (by omega), hI7.fnd]), (by repeat (first | exact Le.nil | apply Le.eq | apply Le.un))⟩
      · skip
        have hk48f := hk48; try simp only [decide_eq_true_eq, decide_eq_false_iff_not, Bool.and_eq_true, Bool.or_eq_true, Bool.not_eq_true', Bool.not_eq_false', Bool.and_eq_false_iff, Bool.or_eq_false_iff, Bool.not_true, Bool.not_false, List.isEmpty_iff] at hk48f
        exact bd_nil ⟨found_42, (by rw [stl_succ one_ other_ hi6, hM, if_neg (by omega), hI7.fnd]), (by repeat (first | exact Le.nil | apply Le.eq | apply Le.un))⟩
      rintro r ⟨found_49, hj, hle⟩
      refine bd_le hle ?_
      clear hle
      have hR7 := hj
      have hR8 := low_next pl hI7 hi6 (by rw [hM]; omega)
      rw [hM, ← hR7] at hR8
      refine bd_seq (sd_setixM (f := PyData.int) (ns := left_43) (ix := (((one_.length : Int) - 1) - (i5 : Int))) (v := (gI one_ (((one_.length : Int) - 1) - (i5 : Int)))) 2 (pd_gixD (f := PyData.int) (ns := one_) (i := (((one_.length : Int) - 1) - (i5 : Int))) (/- side 5 -/ by omega) (pd_var 0 rfl) (pd_var 5 rfl)) rfl (pd_var 5 rfl) rfl (/- side 6 -/ by omega) rfl) ?_
      refine bd_env (ρ' := [.d ((dL PyData.int) one_), .d ((dL PyData.int) other_), .ol ((setI left_43 (((one_.length : Int) - 1) - (i5 : Int)) (gI one_ (((one_.length : Int) - 1) - (i5 : Int)))).map PyData.int), .ol (found_49.map (dT2 PyData.int PyData.int)), .d (PyData.int (i5 : Int)), .d (PyData.int (((one_.length : Int) - 1) - (i5 : Int))), .d (PyData.int more_46)]) rfl ?_
      refine bd_seq (sd_setixM (f := PyData.int) (ns := (setI left_43 (((one_.length : Int) - 1) - (i5 : Int)) (gI one_ (((one_.length : Int) - 1) - (i5 : Int))))) (ix := ((((one_.length : Int) - 1) - (i5 : Int)) - 1)) (v := ((gI (setI left_43 (((one_.length : Int) - 1) - (i5 : Int)) (gI one_ (((one_.length : Int) - 1) - (i5 : Int)))) ((((one_.length : Int) - 1) - (i5 : Int)) - 1)) + more_46)) 2 (pd_add (pd_gixO (f := PyData.int) (ns := (setI left_43 (((one_.length : Int) - 1) - (i5 : Int)) (gI one_ (((one_.length : Int) - 1) - (i5 : Int))))) (i := ((((one_.length : Int) - 1) - (i5 : Int)) - 1)) 2 rfl (pd_sub (pd_var 5 rfl) pd_int) rfl (/- side 7 -/ by rw [setI_len]; omega)) (pd_var 6 rfl)) rfl (pd_sub (pd_var 5 rfl) pd_int) rfl (/- side 8 -/ by rw [setI_len]; omega) rfl) ?_
      refine bd_env (ρ' := [.d ((dL PyData.int) one_), .d ((dL PyData.int) other_), .ol ((setI (setI left_43 (((one_.length : Int) - 1) - (i5 : Int)) (gI one_ (((one_.length : Int) - 1) - (i5 : Int)))) ((((one_.length : Int) - 1) - (i5 : Int)) - 1) ((gI (setI left_43 (((one_.length : Int) - 1) - (i5 : Int)) (gI one_ (((one_.length : Int) - 1) - (i5 : Int)))) ((((one_.length : Int) - 1) - (i5 : Int)) - 1)) + more_46)).map PyData.int), .ol (found_49.map (dT2 PyData.int PyData.int)), .d (PyData.int (i5 : Int)), .d (PyData.int (((one_.length : Int) - 1) - (i5 : Int))), .d (PyData.int more_46)]) rfl ?_
      exact bd_nil ⟨_, (by repeat (first | exact Le.nil | apply Le.eq | apply Le.un)), ⟨found_49, (setI (setI left_43 (((one_.length : Int) - 1) - (i5 : Int)) (gI one_ (((one_.length : Int) - 1) - (i5 : Int)))) ((((one_.length : Int) - 1) - (i5 : Int)) - 1) ((gI (setI left_43 (((one_.length : Int) - 1) - (i5 : Int)) (gI one_ (((one_.length : Int) - 1) - (i5 : Int)))) ((((one_.length : Int) - 1) - (i5 : Int)) - 1)) + more_46)), (by exact hR8), rfl⟩⟩
  rintro r ⟨found_42, left_43, hI45, rfl⟩
  have hE := hI45
  rw [List.length_range, show ((one_.length : Int) - 1).toNat = one_.length - 1 by omega] at hE
  refine bd_one (sd_ret (x := ((dO (dL (dT2 PyData.int PyData.int))) (if (decide (left_43 = one_)) = true then (some found_42) else none))) (pd_ift (ρ2 := [.d ((dL PyData.int) one_), .d ((dL PyData.int) other_), .d ((dL PyData.int) left_43), .un, .un, .un, .un]) (dO (dL (dT2 PyData.int PyData.int))) (some found_42) none (td_eqT (m := 2) (f := (dL PyData.int)) (u := left_43) (v := one_) (G.Room.units65 hr) (eqd_L eqd_int) (by decide) (by exact (pd_thaw 2 rfl)) (by exact (pd_n (pn_list Y.z_list (pq_d (pd_var 0 rfl)) srcN)))) (fun hc50 => (pd_weak (pd_thaw 3 rfl) (by repeat (first | exact Le.nil | apply Le.eq | apply Le.un)))) (fun hc50 => (pd_weak pd_non (by repeat (first | exact Le.nil | apply Le.eq | apply Le.un))))) ?_)
  show ((dO (dL (dT2 PyData.int PyData.int))) (if (decide (left_43 = one_)) = true then (some found_42) else none)) = ((dO (dL (dT2 PyData.int PyData.int))) (m__law_lowered one_ other_))
  refine congrArg (dO (dL (dT2 PyData.int PyData.int))) (?_ : ((if (decide (left_43 = one_)) = true then (some found_42) else none) : (Option (List (Int × Int)))) = (m__law_lowered one_ other_))
  exact low_end pl p0 hE
theorem c__law_lowered (Y : Py P K mg) : Cal P w K mg base 1 "_law_lowered" (spD K S__law_lowered) [] := by
  obtain ⟨fd, F⟩ := Y.d__law_lowered
  exact ⟨_, fd, _, [], f__law_lowered Y F, Y.g__law_lowered, F.kp, F.bindsN (ps := [("one" : Str), ("other" : Str)]) fun _ _ _ _ _ _ us hl => match us, hl with | [_, _], _ => rfl, .nil⟩
end
end GP
namespace GP
open PySem PySem.Spec PyProof.Rows L2 G
section
variable {P : Program} {w : World} {K : PySem.W.Frag} {mg : Str → Option Value} {base : Heap}

def S__law_least (ds : List PyData) (r : Res) : Prop := ∃ (has_ : (List Int)) (asks_ : (List Int)), ds = [((dL PyData.int) has_), ((dL PyData.int) asks_)] ∧ (has_.length = asks_.length ∧ Shp has_.length has_ ∧ has_.length ≤ 4 ∧ ∀ x ∈ asks_, 0 ≤ x ∧ x ≤ 100) ∧ r = .ret ((dO PyData.int) (m_least has_ asks_))
theorem f__law_least (Y : Py P K mg) {fd : FuncData} (F : FunD K "_law_least" "_law_least" (defArgs s__law_least) (defBody s__law_least) (defScope s__law_least) [] [] (He.ga K "_law_least") fd) : FnOk P w K mg base (L2N.CX P w) 1 (He.ga K "_law_least") fd [("has" : Str), ("asks" : Str)] (spD K S__law_least) := by
  refine fn_DD F sc__law_least (fun ds r h => by obtain ⟨_, _, rfl, _⟩ := h; rfl) (by decide) (fun cdv A outer s H E hr ds r h => ?_)
  obtain ⟨has_, asks_, rfl, pre, rfl⟩ := h
  refine bd_env (ρ' := [.d ((dL PyData.int) has_), .d ((dL PyData.int) asks_), .un, .un, .un, .un, .un, .un, .un, .un, .un]) rfl ?_
  obtain ⟨pl, ps, p4, pa⟩ := pre
  refine bd_seq (sd_set 2 (by exact (pd_nt (pn_dtup (ns := has_) (c := 0) 0 (G.Room.units65 hr) Y.z_tuple rfl))) rfl sc__law_least.nd) ?_
  refine bd_env (ρ' := [.d ((dL PyData.int) has_), .d ((dL PyData.int) asks_), .d ((dDT (kLT kI) PyData.int) [(has_, (0 : Int))]), .un, .un, .un, .un, .un, .un, .un, .un]) rfl ?_
  -- for for k in range(len(asks)):
  refine bd_cut (fun r : En => ∃ (states_68 : (List ((List Int) × Int))), (Sts has_.length states_68 (Rf (fun L c => L = has_ ∧ c = 0) (sq asks_ (List.range (asks_.length)).length))) ∧ r = [.d ((dL PyData.int) has_), .d ((dL PyData.int) asks_), .d ((dDT (kLT kI) PyData.int) states_68), .un, .un, .un, .un, .un, .un, .un, .un]) (sd_forM (List.range (asks_.length)) (fun i : Nat => PyData.int (i : Int)) (fun (i5 : Nat) (r : En) => ∃ (states_68 : (List ((List Int) × Int))), (Sts has_.length states_68 (Rf (fun L c => L = has_ ∧ c = 0) (sq asks_ i5))) ∧ r = [.d ((dL PyData.int) has_), .d ((dL PyData.int) asks_), .d ((dDT (kLT kI) PyData.int) states_68), .un, .un, .un, .un, .un, .un, .un, .un]) (passes_of rfl) rfl (id_range0 Y.z_range (pd_lenD (f := PyData.int) (ns := asks_) Y.z_len (pd_var 1 rfl)) (/- side 0 -/ by first | omega | (simp; omega))) ⟨_, (by repeat (first | exact Le.nil | apply Le.eq | apply Le.un)), ⟨[(has_, (0 : Int))], (by exact sts_zero ps), rfl⟩⟩ (fun _ _ _ => trivial) (fun i5 a69 r ha_a69 hI => ?_) (fun r h => h)) ?_
  · obtain ⟨states_68, hI70, rfl⟩ := hI
    obtain ⟨rfl, hi_i5⟩ := range_at ha_a69
    refine ⟨_, (gd_name 3 sc__law_least.nd), ?_⟩
    refine bd_env (ρ' := [.d ((dL PyData.int) has_), .d ((dL PyData.int) asks_), .d ((dDT (kLT kI) PyData.int) states_68), .d (PyData.int (i5 : Int)), .un, .un, .un, .un, .un, .un, .un]) rfl ?_
    have hI7 := hI70
    have hi5 := hi_i5
    refine bd_seq (sd_set 4 (pd_sub (pd_sub (pd_lenD (f := PyData.int) (ns := asks_) Y.z_len (pd_var 1 rfl)) pd_int) (pd_var 3 rfl)) rfl sc__law_least.nd) ?_
    refine bd_env (ρ' := [.d ((dL PyData.int) has_), .d ((dL PyData.int) asks_), .d ((dDT (kLT kI) PyData.int) states_68), .d (PyData.int (i5 : Int)), .d (PyData.int (((asks_.length : Int) - 1) - (i5 : Int))), .un, .un, .un, .un, .un, .un]) rfl ?_
    obtain ⟨asked_71, hasked_71⟩ : ∃ z : Int, ((((asks_.length : Int) - 1) - (i5 : Int)) : Int) = z := ⟨_, rfl⟩
    refine bd_env (ρ' := [.d ((dL PyData.int) has_), .d ((dL PyData.int) asks_), .d ((dDT (kLT kI) PyData.int) states_68), .d (PyData.int (i5 : Int)), .d (PyData.int asked_71), .un, .un, .un, .un, .un, .un]) (by rw [← hasked_71]) ?_
    obtain ⟨n5, hn5⟩ : ∃ n5 : Nat, asked_71 = (n5 : Int) := ⟨(asked_71).toNat, by omega⟩
    have hn5b : n5 = asks_.length - 1 - i5 := by omega
    have ga := pa _ (gI_mem (xs := asks_) (i := asked_71) (by omega))
    -- for for load in range(asks[asked]):
    refine bd_cut (fun r : En => ∃ (states_72 : (List ((List Int) × Int))), (Sts has_.length states_72 (Rf (fun L c => L = has_ ∧ c = 0) (sq asks_ i5 ++ List.replicate (List.range ((gI asks_ asked_71)).toNat).length n5))) ∧ r = [.d ((dL PyData.int) has_), .d ((dL PyData.int) asks_), .d ((dDT (kLT kI) PyData.int) states_72), .d (PyData.int (i5 : Int)), .d (PyData.int asked_71), .un, .un, .un, .un, .un, .un]) (sd_forM (List.range ((gI asks_ asked_71)).toNat) (fun i : Nat => PyData.int (i : Int)) (fun (i6 : Nat) (r : En) => ∃ (states_72 : (List ((List Int) × Int))), (Sts has_.length states_72 (Rf (fun L c => L = has_ ∧ c = 0) (sq asks_ i5 ++ List.replicate i6 n5))) ∧ r = [.d ((dL PyData.int) has_), .d ((dL PyData.int) asks_), .d ((dDT (kLT kI) PyData.int) states_72), .d (PyData.int (i5 : Int)), .d (PyData.int asked_71), .un, .un, .un, .un, .un, .un]) (passes_of rfl) rfl (id_rangeI Y.z_range (pd_gixD (f := PyData.int) (ns := asks_) (i := asked_71) (/- side 1 -/ by omega) (pd_var 1 rfl) (pd_var 4 rfl)) (/- side 2 -/ by omega) (/- side 3 -/ by omega)) ⟨_, (by repeat (first | exact Le.nil | apply Le.eq | apply Le.un)), ⟨states_68, (by rw [show sq asks_ i5 ++ List.replicate 0 n5 = sq asks_ i5 by simp]; exact hI7), rfl⟩⟩ (fun _ _ _ => trivial) (fun i6 a73 r ha_a73 hI => ?_) (fun r h => h)) ?_
    · obtain ⟨states_72, hI74, rfl⟩ := hI
      obtain ⟨rfl, hi_i6⟩ := range_at ha_a73
      refine ⟨_, (gd_name 5 sc__law_least.nd), ?_⟩
      refine bd_env (ρ' := [.d ((dL PyData.int) has_), .d ((dL PyData.int) asks_), .d ((dDT (kLT kI) PyData.int) states_72), .d (PyData.int (i5 : Int)), .d (PyData.int asked_71), .d (PyData.int (i6 : Int)), .un, .un, .un, .un, .un]) rfl ?_
      have hI8 := hI74
      refine bd_seq (sd_setN 6 pn_dictT rfl sc__law_least.nd) ?_
      refine bd_env (ρ' := [.d ((dL PyData.int) has_), .d ((dL PyData.int) asks_), .d ((dDT (kLT kI) PyData.int) states_72), .d (PyData.int (i5 : Int)), .d (PyData.int asked_71), .d (PyData.int (i6 : Int)), .o none (oT (kLT kI) PyData.int []), .un, .un, .un, .un]) rfl ?_
      -- for for left in states:
      refine bd_cut (fun r : En => ∃ (longer_75 : (List ((List Int) × Int))), (Sts has_.length longer_75 (Pk states_72 n5 ((states_72.map (·.1)).take (states_72.map (·.1)).length))) ∧ r = [.d ((dL PyData.int) has_), .d ((dL PyData.int) asks_), .d ((dDT (kLT kI) PyData.int) states_72), .d (PyData.int (i5 : Int)), .d (PyData.int asked_71), .d (PyData.int (i6 : Int)), .o none (oT (kLT kI) PyData.int longer_75), .un, .un, .un, .un]) (sd_forM (states_72.map (·.1)) (fun xs : List Int => PyData.tuple (xs.map PyData.int)) (fun (i7 : Nat) (r : En) => ∃ (longer_75 : (List ((List Int) × Int))), (Sts has_.length longer_75 (Pk states_72 n5 ((states_72.map (·.1)).take i7))) ∧ r = [.d ((dL PyData.int) has_), .d ((dL PyData.int) asks_), .d ((dDT (kLT kI) PyData.int) states_72), .d (PyData.int (i5 : Int)), .d (PyData.int asked_71), .d (PyData.int (i6 : Int)), .o none (oT (kLT kI) PyData.int longer_75), .un, .un, .un, .un]) (passes_of rfl) rfl (id_dkT (td := (fun xs : List Int => PyData.tuple (xs.map PyData.int))) (fun _ => (kds_int _).symm) (pd_var 2 rfl)) ⟨_, (by repeat (first | exact Le.nil | apply Le.eq | apply Le.un)), ⟨[], (by exact sts_iff sts_nil fun L c => ⟨False.elim, fun ⟨l, h, _⟩ => by simp at h⟩), rfl⟩⟩ (fun _ _ _ => trivial) (fun i7 a7 r ha_a7 hI => ?_) (fun r h => h)) ?_
      · obtain ⟨longer_75, hI76, rfl⟩ := hI
        have hm_a7 := List.mem_of_getElem? ha_a7
        refine ⟨_, (gd_name 7 sc__law_least.nd), ?_⟩
        refine bd_env (ρ' := [.d ((dL PyData.int) has_), .d ((dL PyData.int) asks_), .d ((dDT (kLT kI) PyData.int) states_72), .d (PyData.int (i5 : Int)), .d (PyData.int asked_71), .d (PyData.int (i6 : Int)), .o none (oT (kLT kI) PyData.int longer_75), .d (PyData.tuple (a7.map PyData.int)), .un, .un, .un]) rfl ?_
        have hI9 := hI76
        have ha9 := ha_a7
        have hm9 := hm_a7
        obtain ⟨v9, hv9⟩ := gv_some hm9
        have hsh := hI8.shp _ _ (hI8.mem _ _ hv9)
        have hal := hsh.1
        -- for for sort in range(asked, len(left)):
        refine bd_cut (fun r : En => ∃ (longer_77 : (List ((List Int) × Int))), (Sts has_.length longer_77 (Pj states_72 n5 ((states_72.map (·.1)).take i7) a7 (List.range (((a7.length : Int)) - (asked_71)).toNat).length)) ∧ r = [.d ((dL PyData.int) has_), .d ((dL PyData.int) asks_), .d ((dDT (kLT kI) PyData.int) states_72), .d (PyData.int (i5 : Int)), .d (PyData.int asked_71), .d (PyData.int (i6 : Int)), .o none (oT (kLT kI) PyData.int longer_77), .d (PyData.tuple (a7.map PyData.int)), .un, .un, .un]) (sd_forM (List.range (((a7.length : Int)) - (asked_71)).toNat) (fun i : Nat => PyData.int (asked_71 + (i : Int))) (fun (i8 : Nat) (r : En) => ∃ (longer_77 : (List ((List Int) × Int))), (Sts has_.length longer_77 (Pj states_72 n5 ((states_72.map (·.1)).take i7) a7 i8)) ∧ r = [.d ((dL PyData.int) has_), .d ((dL PyData.int) asks_), .d ((dDT (kLT kI) PyData.int) states_72), .d (PyData.int (i5 : Int)), .d (PyData.int asked_71), .d (PyData.int (i6 : Int)), .o none (oT (kLT kI) PyData.int longer_77), .d (PyData.tuple (a7.map PyData.int)), .un, .un, .un]) (passes_of rfl) rfl (id_rangeM (m := asked_71) (n := (a7.length : Int)) Y.z_range (pd_var 4 rfl) (pd_lenTL (f := PyData.int) (ns := a7) Y.z_len (pd_var 7 rfl)) (/- side 4 -/ by omega) (/- side 5 -/ by omega) (/- side 6 -/ by omega) (/- side 7 -/ by omega)) ⟨_, (by repeat (first | exact Le.nil | apply Le.eq | apply Le.un)), ⟨longer_75, (by exact pj_zero hI9), rfl⟩⟩ (fun _ _ _ => trivial) (fun i8 a78 r ha_a78 hI => ?_) (fun r h => h)) ?_
        · obtain ⟨longer_77, hI79, rfl⟩ := hI
          obtain ⟨rfl, hi_i8⟩ := range_at ha_a78
          refine ⟨_, (gd_name 8 sc__law_least.nd), ?_⟩
          refine bd_env (ρ' := [.d ((dL PyData.int) has_), .d ((dL PyData.int) asks_), .d ((dDT (kLT kI) PyData.int) states_72), .d (PyData.int (i5 : Int)), .d (PyData.int asked_71), .d (PyData.int (i6 : Int)), .o none (oT (kLT kI) PyData.int longer_77), .d (PyData.tuple (a7.map PyData.int)), .d (PyData.int (asked_71 + (i8 : Int))), .un, .un]) rfl ?_
          have hJ := hI79
          have hi8 := hi_i8
          have hfew := hJ.few p4
          -- hk80: if left[sort] > 0
          refine bd_cut (fun r => ∃ (longer_81 : (List ((List Int) × Int))), (Sts has_.length longer_81 (Pj states_72 n5 ((states_72.map (·.1)).take i7) a7 (i8 + 1))) ∧ Le [.d ((dL PyData.int) has_), .d ((dL PyData.int) asks_), .d ((dDT (kLT kI) PyData.int) states_72), .d (PyData.int (i5 : Int)), .d (PyData.int asked_71), .d (PyData.int (i6 : Int)), .o none (oT (kLT kI) PyData.int longer_81), .d (PyData.tuple (a7.map PyData.int)), .d (PyData.int (asked_71 + (i8 : Int))), .un, .un] r) (sd_if (k := (decide (0 < (gI a7 (asked_71 + (i8 : Int)))))) (td_gt (pd_ixTL (f := PyData.int) (ns := a7) (i := (asked_71 + (i8 : Int))) (/- side 8 -/ by omega) (pd_var 7 rfl) (pd_var 8 rfl)) pd_int) (fun hk80 => ?_) (fun hk80 => ?_)) ?_
          · skip
            have hk80f := hk80; try simp only [decide_eq_true_eq, decide_eq_false_iff_not, Bool.and_eq_true, Bool.or_eq_true, Bool.not_eq_true', Bool.not_eq_false', Bool.and_eq_false_iff, Bool.or_eq_false_iff, Bool.not_true, Bool.not_false, List.isEmpty_iff] at hk80f
            refine bd_seq (sd_set 9 (pd_addTL (f := PyData.int) (ns := ((cutG a7 none (some (asked_71 + (i8 : Int)))) ++ [((gI a7 (asked_71 + (i8 : Int))) - 1)])) (ms := (cutG a7 (some ((asked_71 + (i8 : Int)) + 1)) none)) (by exact (pd_addTL (f := PyData.int) (ns := (cutG a7 none (some (asked_71 + (i8 : Int))))) (ms := [((gI a7 (asked_71 + (i8 : Int))) - 1)]) (by exact (pd_sliceTL (f := PyData.int) (ns := a7) (ol := none) (oh := (some (asked_71 + (i8 : Int)))) (pd_var 7 rfl) od_none (od_some (pd_var 8 rfl)))) (by exact (pd_tup (ad_cons (pd_sub (pd_ixTL (f := PyData.int) (ns := a7) (i := (asked_71 + (i8 : Int))) (/- side 9 -/ by omega) (pd_var 7 rfl) (pd_var 8 rfl)) pd_int) ad_nil))) (/- side 10 -/ by have h9 := cutG_le a7 none (some (asked_71 + (i8 : Int))); simp; omega))) (by exact (pd_sliceTL (f := PyData.int) (ns := a7) (ol := (some ((asked_71 + (i8 : Int)) + 1))) (oh := none) (pd_var 7 rfl) (od_some (pd_add (pd_var 8 rfl) pd_int)) od_none)) (/- side 11 -/ by have h9 := cutG_le a7 none (some (asked_71 + (i8 : Int))); have h10 := cutG_le a7 (some (asked_71 + (i8 : Int) + 1)) none; rw [List.length_append]; simp; omega)) rfl sc__law_least.nd) ?_
            refine bd_env (ρ' := [.d ((dL PyData.int) has_), .d ((dL PyData.int) asks_), .d ((dDT (kLT kI) PyData.int) states_72), .d (PyData.int (i5 : Int)), .d (PyData.int asked_71), .d (PyData.int (i6 : Int)), .o none (oT (kLT kI) PyData.int longer_77), .d (PyData.tuple (a7.map PyData.int)), .d (PyData.int (asked_71 + (i8 : Int))), .d (PyData.tuple ((((cutG a7 none (some (asked_71 + (i8 : Int)))) ++ [((gI a7 (asked_71 + (i8 : Int))) - 1)]) ++ (cutG a7 (some ((asked_71 + (i8 : Int)) + 1)) none)).map PyData.int)), .un]) rfl ?_
            obtain ⟨rest_82, hrest_82⟩ : ∃ z : (List Int), ((((cutG a7 none (some (asked_71 + (i8 : Int)))) ++ [((gI a7 (asked_71 + (i8 : Int))) - 1)]) ++ (cutG a7 (some ((asked_71 + (i8 : Int)) + 1)) none)) : (List Int)) = z := ⟨_, rfl⟩
            refine bd_env (ρ' := [.d ((dL PyData.int) has_), .d ((dL PyData.int) asks_), .d ((dDT (kLT kI) PyData.int) states_72), .d (PyData.int (i5 : Int)), .d (PyData.int asked_71), .d (PyData.int (i6 : Int)), .o none (oT (kLT kI) PyData.int longer_77), .d (PyData.tuple (a7.map PyData.int)), .d (PyData.int (asked_71 + (i8 : Int))), .d (PyData.tuple (rest_82.map PyData.int)), .un]) (by rw [← hrest_82]) ?_
            have hrest : rest_82 = dc a7 (n5 + i8) := by rw [← hrest_82, hn5, show (n5 : Int) + (i8 : Int) = ((n5 + i8 : Nat) : Int) by omega]; exact rest_dc (by omega)
            have hRs : Shp has_.length rest_82 := by rw [hrest]; exact shp_dc hsh (by omega) (by rw [show ((n5 + i8 : Nat) : Int) = asked_71 + (i8 : Int) by omega]; omega)
            refine bd_seq (sd_set 10 (pd_sub (pd_add (pd_dgetD (G.Room.units65 hr) (pd_var 2 rfl) (pd_var 7 rfl) (df_tget (kLT_inj kI_inj) states_72 a7 (/- side 12 -/ by rw [hv9]; rfl) (hy := kds_int _))) (pd_var 8 rfl)) (pd_var 4 rfl)) rfl sc__law_least.nd) ?_
            refine bd_env (ρ' := [.d ((dL PyData.int) has_), .d ((dL PyData.int) asks_), .d ((dDT (kLT kI) PyData.int) states_72), .d (PyData.int (i5 : Int)), .d (PyData.int asked_71), .d (PyData.int (i6 : Int)), .o none (oT (kLT kI) PyData.int longer_77), .d (PyData.tuple (a7.map PyData.int)), .d (PyData.int (asked_71 + (i8 : Int))), .d (PyData.tuple (rest_82.map PyData.int)), .d (PyData.int (((gD states_72 a7) + (asked_71 + (i8 : Int))) - asked_71))]) rfl ?_
            obtain ⟨total_83, htotal_83⟩ : ∃ z : Int, ((((gD states_72 a7) + (asked_71 + (i8 : Int))) - asked_71) : Int) = z := ⟨_, rfl⟩
            refine bd_env (ρ' := [.d ((dL PyData.int) has_), .d ((dL PyData.int) asks_), .d ((dDT (kLT kI) PyData.int) states_72), .d (PyData.int (i5 : Int)), .d (PyData.int asked_71), .d (PyData.int (i6 : Int)), .o none (oT (kLT kI) PyData.int longer_77), .d (PyData.tuple (a7.map PyData.int)), .d (PyData.int (asked_71 + (i8 : Int))), .d (PyData.tuple (rest_82.map PyData.int)), .d (PyData.int total_83)]) (by rw [← htotal_83]) ?_
            have htot : gD states_72 a7 + (asked_71 + (i8 : Int)) - asked_71 = total_83 := htotal_83
            -- hk84: if rest not in longer or total < longer[rest]
            refine bd_cut (fun r => ∃ (longer_85 : (List ((List Int) × Int))), (Sts has_.length longer_85 (fun L c => Pj states_72 n5 ((states_72.map (·.1)).take i7) a7 i8 L c ∨ (L = rest_82 ∧ c = total_83))) ∧ Le [.d ((dL PyData.int) has_), .d ((dL PyData.int) asks_), .d ((dDT (kLT kI) PyData.int) states_72), .d (PyData.int (i5 : Int)), .d (PyData.int asked_71), .d (PyData.int (i6 : Int)), .o none (oT (kLT kI) PyData.int longer_85), .d (PyData.tuple (a7.map PyData.int)), .d (PyData.int (asked_71 + (i8 : Int))), .d (PyData.tuple (rest_82.map PyData.int)), .d (PyData.int total_83)] r) (sd_if (k := ((!(hasK longer_77 rest_82)) || (decide (total_83 < (gD longer_77 rest_82))))) (td_w (wd_or (td_cast (k := (!((gv longer_77 rest_82).map PyData.int).isSome)) (by rw [Option.isSome_map]; rfl) (td_dnotO 6 (G.Room.units65 hr) (pd_var 9 rfl) rfl (dk_t (kLT_inj kI_inj) longer_77 rest_82 (hy := kds_int _)))) (fun hw => (wd_or1 (td_lt (pd_var 10 rfl) (pd_dgetO 6 (G.Room.units65 hr) rfl (pd_var 9 rfl) rfl (dk_tget (kLT_inj kI_inj) longer_77 rest_82 (/- side 13 -/ by have h9 := hw; rw [Bool.not_eq_false'] at h9; exact h9) (hy := kds_int _)))))))) (fun hk84 => ?_) (fun hk84 => ?_)) ?_
            · skip
              have hk84f := hk84; try simp only [decide_eq_true_eq, decide_eq_false_iff_not, Bool.and_eq_true, Bool.or_eq_true, Bool.not_eq_true', Bool.not_eq_false', Bool.and_eq_false_iff, Bool.or_eq_false_iff, Bool.not_true, Bool.not_false, List.isEmpty_iff] at hk84f
              refine bd_seq (sd_dput 6 (G.Room.units65 hr) (pd_var 10 rfl) rfl (pd_var 9 rfl) rfl (dp_t (kLT_inj kI_inj) longer_77 rest_82 total_83 (f := PyData.int) (/- side 14 -/ by omega) (hy := kds_int _)) rfl) ?_
              refine bd_env (ρ' := [.d ((dL PyData.int) has_), .d ((dL PyData.int) asks_), .d ((dDT (kLT kI) PyData.int) states_72), .d (PyData.int (i5 : Int)), .d (PyData.int asked_71), .d (PyData.int (i6 : Int)), .o none (oT (kLT kI) PyData.int (pv longer_77 rest_82 total_83)), .d (PyData.tuple (a7.map PyData.int)), .d (PyData.int (asked_71 + (i8 : Int))), .d (PyData.tuple (rest_82.map PyData.int)), .d (PyData.int total_83)]) rfl ?_
              exact bd_nil ⟨(pv longer_77 rest_82 total_83), (by exact sts_put hJ hRs (by have h9 := hk84f; simpa using h9)), (by repeat (first | exact Le.nil | apply Le.eq | apply Le.un))⟩
            · skip
              have hk84f := hk84; try simp only [decide_eq_true_eq, decide_eq_false_iff_not, Bool.and_eq_true, Bool.or_eq_true, Bool.not_eq_true', Bool.not_eq_false', Bool.and_eq_false_iff, Bool.or_eq_false_iff, Bool.not_true, Bool.not_false, List.isEmpty_iff] at hk84f
              exact bd_nil ⟨longer_77, (by exact sts_skip hJ hRs (by have h9 := hk84f; simpa using h9)), (by repeat (first | exact Le.nil | apply Le.eq | apply Le.un))⟩
            rintro r ⟨longer_85, hj, hle⟩
            refine bd_le hle ?_
            clear hle
            have hS8 := hj
            exact bd_nil ⟨longer_85, (by exact pj_yes (by omega) (by rw [← hn5]; omega) (by rw [← hrest, ← hn5, htot]; exact hS8)), (by repeat (first | exact Le.nil | apply Le.eq | apply Le.un))⟩
          · skip
            have hk80f := hk80; try simp only [decide_eq_true_eq, decide_eq_false_iff_not, Bool.and_eq_true, Bool.or_eq_true, Bool.not_eq_true', Bool.not_eq_false', Bool.and_eq_false_iff, Bool.or_eq_false_iff, Bool.not_true, Bool.not_false, List.isEmpty_iff] at hk80f
            exact bd_nil ⟨longer_77, (by exact pj_no hJ (by rw [← hn5]; omega)), (by repeat (first | exact Le.nil | apply Le.eq | apply Le.un))⟩
          rintro r ⟨longer_81, hj, hle⟩
          refine bd_le hle ?_
          clear hle
          have hR8 := hj
          exact bd_nil ⟨_, (by repeat (first | exact Le.nil | apply Le.eq | apply Le.un)), ⟨longer_81, (by exact hR8), rfl⟩⟩
        rintro r ⟨longer_77, hI79, rfl⟩
        have hE8 := hI79
        rw [List.length_range] at hE8
        have hR9 := pj_end hE8 (by omega)
        exact bd_nil ⟨_, (by repeat (first | exact Le.nil | apply Le.eq | apply Le.un)), ⟨longer_77, (by rw [take_succ_of ha9]; exact hR9), rfl⟩⟩
      rintro r ⟨longer_75, hI76, rfl⟩
      have hE9 := hI76
      rw [List.take_length] at hE9
      have hR7 := pk_done hI8 hE9
      refine bd_seq (sd_set 2 (pd_thawT 6 rfl) rfl sc__law_least.nd) ?_
      refine bd_env (ρ' := [.d ((dL PyData.int) has_), .d ((dL PyData.int) asks_), .d ((dDT (kLT kI) PyData.int) longer_75), .d (PyData.int (i5 : Int)), .d (PyData.int asked_71), .d (PyData.int (i6 : Int)), .d ((dDT (kLT kI) PyData.int) longer_75), .un, .un, .un, .un]) rfl ?_
      exact bd_nil ⟨_, (by repeat (first | exact Le.nil | apply Le.eq | apply Le.un)), ⟨longer_75, (by rw [List.replicate_succ', ← List.append_assoc, rf_app]; exact hR7), rfl⟩⟩
    rintro r ⟨states_72, hI74, rfl⟩
    have hE6 := hI74
    rw [List.length_range] at hE6
    have hQ7 : Sts has_.length states_72 (Rf (fun L c => L = has_ ∧ c = 0) (sq asks_ (i5 + 1))) := by show Sts _ _ (Rf _ (sq asks_ i5 ++ List.replicate (gI asks_ ((asks_.length - 1 - i5 : Nat) : Int)).toNat (asks_.length - 1 - i5))); rw [← hn5b, ← hn5]; exact hE6
    exact bd_nil ⟨_, (by repeat (first | exact Le.nil | apply Le.eq | apply Le.un)), ⟨states_72, (by exact hQ7), rfl⟩⟩
  rintro r ⟨states_68, hI70, rfl⟩
  have hE := hI70
  rw [List.length_range] at hE
  refine bd_one (sd_ret (x := ((dO PyData.int) (if (decide (0 < (states_68.length : Int))) = true then (some (lmin ((states_68.map (·.1)).map (fun (a87 : (List Int)) => (gD states_68 a87))))) else none))) (pd_ift (dO PyData.int) (some (lmin ((states_68.map (·.1)).map (fun (a87 : (List Int)) => (gD states_68 a87))))) none (td_gt (pd_lenDT (kt := (kLT kI)) (f := PyData.int) (m := states_68) Y.z_len (pd_var 2 rfl)) pd_int) (fun hc86 => (pd_minD (ns := ((states_68.map (·.1)).map (fun (a87 : (List Int)) => (gD states_68 a87)))) rfl Y.z_min (/- side 17 -/ by rw [List.length_map, List.length_map]; have h9 := of_decide_eq_true hc86; omega) (pd_n (pn_lc (lcN (states_68.map (·.1)) (fun xs : List Int => PyData.tuple (xs.map PyData.int)) PyData.int (fun (a87 : (List Int)) => (gD states_68 a87)) (blkOk_by (own := [("left", 7)]) (show blkC n__law_least (defScope s__law_least) _ _ = true by decide +kernel)) (id_dkT (td := (fun xs : List Int => PyData.tuple (xs.map PyData.int))) (fun _ => (kds_int _).symm) (pd_var 2 rfl)) (/- side 16 -/ by have := hE.few p4; rw [List.length_map]; omega) (by intro _ h; cases h) (by trivial) (fun a87 ha => ⟨_, _, (fun Z hZ => by obtain ⟨s1, H1, C1, cl1, fp1, rfl⟩ := hZ; exact (gv_name 7 (by decide) sc__law_least.nd)), (fun Z hZ => by obtain ⟨s1, H1, C1, cl1, fp1, rfl⟩ := hZ; exact (pd_dgetD (G.Room.units65 hr) (pd_var 2 rfl) (pd_var 7 rfl) (df_tget (kLT_inj kI_inj) states_68 a87 (/- side 15 -/ by obtain ⟨v, hv⟩ := gv_some ha; rw [hv]; rfl) (hy := kds_int _)))), (by repeat (first | exact Le.nil | apply Le.eq | apply Le.un)), (by repeat (first | exact Le.nil | apply Le.eq | apply Le.un))⟩)) sc__law_least.nd)))) (fun hc86 => pd_non)) ?_)
  show ((dO PyData.int) (if (decide (0 < (states_68.length : Int))) = true then (some (lmin ((states_68.map (·.1)).map (fun (a87 : (List Int)) => (gD states_68 a87))))) else none)) = ((dO PyData.int) (m_least has_ asks_))
  refine congrArg (dO PyData.int) (?_ : ((if (decide (0 < (states_68.length : Int))) = true then (some (lmin ((states_68.map (·.1)).map (fun (a87 : (List Int)) => (gD states_68 a87))))) else none) : (Option Int)) = (m_least has_ asks_))
  exact least_is pl (fun x hx => (ps.2 x hx).1) (fun x hx => (pa x hx).1) hE
theorem c__law_least (Y : Py P K mg) : Cal P w K mg base 1 "_law_least" (spD K S__law_least) [] := by
  obtain ⟨fd, F⟩ := Y.d__law_least
  exact ⟨_, fd, _, [], f__law_least Y F, Y.g__law_least, F.kp, F.bindsN (ps := [("has" : Str), ("asks" : Str)]) fun _ _ _ _ _ _ us hl => match us, hl with | [_, _], _ => rfl, .nil⟩
end
end GP
namespace GP
open PySem PySem.Spec PyProof.Rows L2 G
section
variable {P : Program} {w : World} {K : PySem.W.Frag} {mg : Str → Option Value} {base : Heap}
def tooFew : List (Str × PyData) := [("reason", .str "too few")]
def S_least_raised_bad (K : PySem.W.Frag) (ds : List PyData) (r : Res) : Prop := ∃ (h a : List Int), ds = [dL PyData.int h, dL PyData.int a] ∧ ((Am h ∧ Am a ∧ h.length = a.length) ∧ m_fits h a = false) ∧ r = .exc (.ref (He.ga K "NotNow")) [("reason", .str "too few")]
theorem f_least_raised_bad (Y : Py P K mg) {fd : FuncData} (F : FunD K "least_raised" "least_raised" (defArgs s_least_raised) (defBody s_least_raised) (defScope s_least_raised) [] [] (He.ga K "least_raised") fd) : FnOk P w K mg base (L2N.CX P w) 7 (He.ga K "least_raised") fd [("has" : Str), ("asks" : Str)] (spD K (S_least_raised_bad K)) := by
  refine fn_DD F sc_least_raised (fun ds r h => by obtain ⟨_, _, rfl, _⟩ := h; rfl) (by decide) (fun cdv A outer s H E hr ds r h => ?_)
  obtain ⟨h, a, rfl, ⟨⟨ph, pa, pl⟩, pf⟩, rfl⟩ := h
  refine bd_env (ρ' := [.d (dL PyData.int h), .d (dL PyData.int a), .un, .un]) rfl ?_
  refine bd_seq (sd_unpackQ 2 3 (c_checked_pair Y) hr .nil (ad_cons (pd_var 0 rfl) (ad_cons (pd_var 1 rfl) ad_nil)) ⟨h, a, rfl, ⟨ph, pa, pl⟩, .inl rfl⟩ (by decide) rfl rfl sc_least_raised.nd) ?_
  refine bd_env (ρ' := [.d (dL PyData.int h), .d (dL PyData.int a), .ol (h.map PyData.int), .ol (a.map PyData.int)]) rfl ?_
  exact bd_guard_end (sd_if (k := true) (td_cast (k := !m_fits h a) (by rw [pf]; rfl) (td_not (td_val (pd_call (c_fits Y) hr .nil (ad_cons (pd_thaw 2 rfl) (ad_cons (pd_thaw 3 rfl) ad_nil)) ⟨h, a, rfl, ⟨ph, pa, pl⟩, rfl⟩)))) (fun _ => bd_one (sd_raiseN rfl (L2N.takes_of rfl rfl rfl rfl) Y.n_NotNow hr pd_str ⟨rfl, rfl⟩)) (fun h => nomatch h))
theorem c_least_raised_bad (Y : Py P K mg) : Cal P w K mg base 7 "least_raised" (spD K (S_least_raised_bad K)) [] := by
  obtain ⟨fd, F⟩ := Y.d_least_raised
  exact ⟨_, fd, _, [], f_least_raised_bad Y F, Y.g_least_raised, F.kp, F.bindsN (ps := [("has" : Str), ("asks" : Str)]) fun _ _ _ _ _ _ us hl => match us, hl with | [_, _], _ => rfl, .nil⟩
def S_steps_bad (K : PySem.W.Frag) (ds : List PyData) (r : Res) : Prop := ∃ (h a : List Int), ds = [dL PyData.int h, dL PyData.int a] ∧ ((Am h ∧ Am a ∧ h.length = a.length) ∧ m_is_better h a = false) ∧ r = .exc (.ref (He.ga K "InvalidPaper")) []
theorem f_steps_bad (Y : Py P K mg) {fd : FuncData} (F : FunD K "steps" "steps" (defArgs s_steps) (defBody s_steps) (defScope s_steps) [] [] (He.ga K "steps") fd) : FnOk P w K mg base (L2N.CX P w) 6 (He.ga K "steps") fd [("one" : Str), ("other" : Str)] (spD K (S_steps_bad K)) := by
  refine fn_DD F sc_steps (fun ds r h => by obtain ⟨_, _, rfl, _⟩ := h; rfl) (by decide) (fun cdv A outer s H E hr ds r h => ?_)
  obtain ⟨h, a, rfl, ⟨⟨ph, pa, pl⟩, pf⟩, rfl⟩ := h
  refine bd_env (ρ' := [.d (dL PyData.int h), .d (dL PyData.int a), .un, .un, .un]) rfl ?_
  exact bd_guard_end (sd_if (k := true) (td_cast (k := !m_is_better h a) (by rw [pf]; rfl) (td_not (td_val (pd_call (c_is_better Y) hr .nil (ad_cons (pd_var 0 rfl) (ad_cons (pd_var 1 rfl) ad_nil)) ⟨h, a, rfl, ⟨ph, pa, pl⟩, rfl⟩)))) (fun _ => bd_one (sd_raise1 rfl (L2N.takes_of rfl rfl rfl rfl) Y.x_InvalidPaper pd_str ⟨rfl, rfl⟩)) (fun h => nomatch h))
theorem c_steps_bad (Y : Py P K mg) : Cal P w K mg base 6 "steps" (spD K (S_steps_bad K)) [] := by
  obtain ⟨fd, F⟩ := Y.d_steps
  exact ⟨_, fd, _, [], f_steps_bad Y F, Y.g_steps, F.kp, F.bindsN (ps := [("one" : Str), ("other" : Str)]) fun _ _ _ _ _ _ us hl => match us, hl with | [_, _], _ => rfl, .nil⟩
def S_most_asked_bad (K : PySem.W.Frag) (ds : List PyData) (r : Res) : Prop := ∃ (h a : List Int) (d : PyData), ds = [dL PyData.int h, dL PyData.int a, d] ∧ ((Am h ∧ Am a ∧ h.length = a.length) ∧ isDct d = false ∧ isNum d 0 ((h.length : Int) - 1) = false) ∧ r = .exc (.ref (He.ga K "InvalidPaper")) []
theorem f_most_asked_bad (Y : Py P K mg) {fd : FuncData} (F : FunD K "most_asked" "most_asked" (defArgs s_most_asked) (defBody s_most_asked) (defScope s_most_asked) [] [] (He.ga K "most_asked") fd) : FnOk P w K mg base (L2N.CX P w) 6 (He.ga K "most_asked") fd [("has" : Str), ("asks" : Str), ("sort" : Str)] (spD K (S_most_asked_bad K)) := by
  refine fn_DD F sc_most_asked (fun ds r h => by obtain ⟨_, _, _, rfl, _⟩ := h; rfl) (by decide) (fun cdv A outer s H E hr ds r h => ?_)
  obtain ⟨h, a, d, rfl, ⟨⟨ph, pa, pl⟩, nd, pf⟩, rfl⟩ := h
  refine bd_env (ρ' := [.d (dL PyData.int h), .d (dL PyData.int a), .d d, .un, .un, .un, .un]) rfl ?_
  refine bd_seq (sd_unpackQ 3 4 (c_checked_pair Y) hr .nil (ad_cons (pd_var 0 rfl) (ad_cons (pd_var 1 rfl) ad_nil)) ⟨h, a, rfl, ⟨ph, pa, pl⟩, .inl rfl⟩ (by decide) rfl rfl sc_most_asked.nd) ?_
  refine bd_env (ρ' := [.d (dL PyData.int h), .d (dL PyData.int a), .d d, .ol (h.map PyData.int), .ol (a.map PyData.int), .un, .un]) rfl ?_
  exact bd_guard_end (sd_if (k := true) (td_cast (k := !isNum d 0 ((h.length : Int) - 1)) (by rw [pf]; rfl) (td_not (td_val (pd_call (c_is_number_3 Y) hr .nil (ad_cons (pd_var 2 rfl) (ad_cons pd_int (ad_cons (pd_sub (pd_lenO (f := PyData.int) (ns := h) 3 Y.z_len rfl) pd_int) ad_nil))) ⟨d, 0, _, rfl, nd, rfl⟩)))) (fun _ => bd_one (sd_raise1 rfl (L2N.takes_of rfl rfl rfl rfl) Y.x_InvalidPaper pd_str ⟨rfl, rfl⟩)) (fun h => nomatch h))
theorem c_most_asked_bad (Y : Py P K mg) : Cal P w K mg base 6 "most_asked" (spD K (S_most_asked_bad K)) [] := by
  obtain ⟨fd, F⟩ := Y.d_most_asked
  exact ⟨_, fd, _, [], f_most_asked_bad Y F, Y.g_most_asked, F.kp, F.bindsN (ps := [("has" : Str), ("asks" : Str), ("sort" : Str)]) fun _ _ _ _ _ _ us hl => match us, hl with | [_, _, _], _ => rfl, .nil⟩
end
end GP

namespace GP
open PySem PySem.Spec PyProof.Rows L2 G
section
variable {P : Program} {w : World} {K : PySem.W.Frag} {mg : Str → Option Value} {base : Heap}
section
variable {X : Cx} {W : WX} {a b : Expr} {x : PyData} {pos : Pos} {ρ ρ1 ρ2 : En} {cls : Value} {fs : List (Str × PyData)}
theorem tx_cmpR {op : CmpOp} {r : R2} (ho : OpR X (compareOp op) r) (ha : PD X a ρ x ρ1) (hb : PX X W b ρ1 cls fs ρ2) (hm : behindInMarks op b = false) : TX X W (.Compare a [op] [b] pos) ρ cls fs ρ2 :=
  PT_imp (pt_cmpR ho ha hb hm) fun σ H Q ⟨C, F, se, w⟩ => ⟨C, F, se, fun v F1 H1 x1 e1 r1 => ⟨C, F1, e1, fun d F2 H2 x2 e2 r2 => w d F2 H2 (x1.trans x2) e2 r2⟩⟩
end
def Rng (h : List Int) (x y : Int) : Prop := 0 ≤ x ∧ x ≤ y ∧ y < (h.length : Int)
def S_mixed_bad (K : PySem.W.Frag) (ds : List PyData) (r : Res) : Prop := ∃ (h : List Int) (x y : Int) (z : PyData), ds = [dL PyData.int h, .int x, .int y, z] ∧ (Am h ∧ ((¬ Rng h x y ∧ r = .exc (.ref (He.ga K "InvalidNumber")) []) ∨ (Rng h x y ∧ isDct z = false ∧ isNum z 0 1000000 = false ∧ r = .exc (.ref (He.ga K "InvalidNumber")) []) ∨
  (Rng h x y ∧ ∃ n : Int, z = .int n ∧ 0 ≤ n ∧ n ≤ 1000000 ∧ gI h y < n ∧ r = .exc (.ref (He.ga K "NotNow")) [("reason", .str "too few")])))
theorem f_mixed_bad (Y : Py P K mg) {fd : FuncData} (F : FunD K "mixed" "mixed" (defArgs s_mixed) (defBody s_mixed) (defScope s_mixed) [] [] (He.ga K "mixed") fd) : FnOk P w K mg base (L2N.CX P w) 4 (He.ga K "mixed") fd [("has" : Str), ("low" : Str), ("high" : Str), ("loads" : Str)] (spD K (S_mixed_bad K)) := by
  refine fn_DD F sc_mixed (fun ds r h => by obtain ⟨_, _, _, _, rfl, _⟩ := h; rfl) (by decide) (fun cdv A outer s H E hr ds r h => ?_)
  obtain ⟨h, x, y, z, rfl, ph, hb⟩ := h
  refine bd_env (ρ' := [.d (dL PyData.int h), .d (PyData.int x), .d (PyData.int y), .d z, .un]) rfl ?_
  refine bd_seq (sd_setN 4 (pn_call (c_checked_amounts Y) hr .nil (ad_cons (pd_var 0 rfl) ad_nil) ⟨h, rfl, ph, rfl⟩) rfl sc_mixed.nd) ?_
  refine bd_env (ρ' := [.d (dL PyData.int h), .d (PyData.int x), .d (PyData.int y), .d z, .ol ((id h).map PyData.int)]) rfl ?_
  have ok : Rng h x y → ((!(isNum (PyData.int x) 0 (((id h).length : Int) - 1))) || (!(isNum (PyData.int y) x (((id h).length : Int) - 1)))) = false := fun ⟨h1, h2, h3⟩ => by rw [isNum_int, isNum_int]; simp; omega
  rcases hb with ⟨nr, rfl⟩ | ⟨rg, nd, hbad, rfl⟩ | ⟨rg, n, rfl, n0, n1, n2, rfl⟩
  · refine bd_guard_end (sd_if (k := true) (td_cast (k := ((!(isNum (PyData.int x) 0 (((id h).length : Int) - 1))) || (!(isNum (PyData.int y) x (((id h).length : Int) - 1))))) (by rw [isNum_int, isNum_int]; unfold Rng at nr; simp; omega) (td_w (wd_or (td_not (td_val (pd_call (c_is_number_3 Y) hr .nil (ad_cons (pd_var 1 rfl) (ad_cons pd_int (ad_cons (pd_sub (pd_lenO (f := PyData.int) (ns := (id h)) 4 Y.z_len rfl) pd_int) ad_nil))) ⟨(PyData.int x), 0, (((id h).length : Int) - 1), rfl, rfl, rfl⟩))) (fun hw => (wd_or1 (td_not (td_val (pd_call (c_is_number_3 Y) hr .nil (ad_cons (pd_var 2 rfl) (ad_cons (pd_var 1 rfl) (ad_cons (pd_sub (pd_lenO (f := PyData.int) (ns := (id h)) 4 Y.z_len rfl) pd_int) ad_nil))) ⟨(PyData.int y), x, (((id h).length : Int) - 1), rfl, rfl, rfl⟩)))))))) (fun _ => bd_one (sd_raise1 rfl (L2N.takes_of rfl rfl rfl rfl) Y.x_InvalidNumber pd_str ⟨rfl, rfl⟩)) (fun h => nomatch h))
  · refine bd_guard (k := false) (td_cast (k := ((!(isNum (PyData.int x) 0 (((id h).length : Int) - 1))) || (!(isNum (PyData.int y) x (((id h).length : Int) - 1))))) (ok rg) (td_w (wd_or (td_not (td_val (pd_call (c_is_number_3 Y) hr .nil (ad_cons (pd_var 1 rfl) (ad_cons pd_int (ad_cons (pd_sub (pd_lenO (f := PyData.int) (ns := (id h)) 4 Y.z_len rfl) pd_int) ad_nil))) ⟨(PyData.int x), 0, (((id h).length : Int) - 1), rfl, rfl, rfl⟩))) (fun hw => (wd_or1 (td_not (td_val (pd_call (c_is_number_3 Y) hr .nil (ad_cons (pd_var 2 rfl) (ad_cons (pd_var 1 rfl) (ad_cons (pd_sub (pd_lenO (f := PyData.int) (ns := (id h)) 4 Y.z_len rfl) pd_int) ad_nil))) ⟨(PyData.int y), x, (((id h).length : Int) - 1), rfl, rfl, rfl⟩)))))))) (fun h => nomatch h) (fun _ => ?_)
    obtain ⟨r1, r2, r3⟩ := rg
    exact bd_guard_end (sd_ifX (tx_cmpR op_lt (pd_gixO (f := PyData.int) (ns := (id h)) (i := y) 4 rfl (pd_var 2 rfl) rfl (by simp only [id_eq]; omega)) (px_call (L2N.takes_of rfl rfl rfl rfl) (c_checked_number_1 Y) hr (.int (.int .nil)) (ad_cons (pd_var 3 rfl) ad_nil) ⟨z, 0, 1000000, rfl, ⟨nd, sml_of (by omega) (by omega), sml_of (by omega) (by omega)⟩, chk_bad hbad⟩) (nomark _)) ⟨rfl, rfl⟩)
  · refine bd_guard (k := false) (td_cast (k := ((!(isNum (PyData.int x) 0 (((id h).length : Int) - 1))) || (!(isNum (PyData.int y) x (((id h).length : Int) - 1))))) (ok rg) (td_w (wd_or (td_not (td_val (pd_call (c_is_number_3 Y) hr .nil (ad_cons (pd_var 1 rfl) (ad_cons pd_int (ad_cons (pd_sub (pd_lenO (f := PyData.int) (ns := (id h)) 4 Y.z_len rfl) pd_int) ad_nil))) ⟨(PyData.int x), 0, (((id h).length : Int) - 1), rfl, rfl, rfl⟩))) (fun hw => (wd_or1 (td_not (td_val (pd_call (c_is_number_3 Y) hr .nil (ad_cons (pd_var 2 rfl) (ad_cons (pd_var 1 rfl) (ad_cons (pd_sub (pd_lenO (f := PyData.int) (ns := (id h)) 4 Y.z_len rfl) pd_int) ad_nil))) ⟨(PyData.int y), x, (((id h).length : Int) - 1), rfl, rfl, rfl⟩)))))))) (fun h => nomatch h) (fun _ => ?_)
    obtain ⟨r1, r2, r3⟩ := rg
    exact bd_guard_end (sd_if (k := true) (td_cast (k := decide (gI (id h) y < n)) (by exact decide_eq_true (by simp only [id_eq]; omega)) (td_lt (pd_gixO (f := PyData.int) (ns := (id h)) (i := y) 4 rfl (pd_var 2 rfl) rfl (by simp only [id_eq]; omega)) (pd_call (c_checked_number_1 Y) hr (.int (.int .nil)) (ad_cons (pd_var 3 rfl) ad_nil) ⟨.int n, 0, 1000000, rfl, ⟨rfl, sml_of (by omega) (by omega), sml_of (by omega) (by omega)⟩, chk_ok ⟨n0, n1⟩⟩))) (fun _ => bd_one (sd_raiseN rfl (L2N.takes_of rfl rfl rfl rfl) Y.n_NotNow hr pd_str ⟨rfl, rfl⟩)) (fun h => nomatch h))
theorem c_mixed_bad (Y : Py P K mg) : Cal P w K mg base 4 "mixed" (spD K (S_mixed_bad K)) [] := by
  obtain ⟨fd, F⟩ := Y.d_mixed
  exact ⟨_, fd, _, [], f_mixed_bad Y F, Y.g_mixed, F.kp, F.bindsN (ps := [("has" : Str), ("low" : Str), ("high" : Str), ("loads" : Str)]) fun _ _ _ _ _ _ us hl => match us, hl with | [_, _, _, _], _ => rfl, .nil⟩
end
end GP

namespace GP
open PySem PySem.Spec PyProof.Rows L2 G
section
variable {P : Program} {w : World} {K : PySem.W.Frag} {mg : Str → Option Value} {base : Heap}
section
variable {X : Cx} {a b : Expr} {pos : Pos} {ρ ρ1 ρ2 : En} {i j k : Bool}
theorem td_eqB (hk : (i == j) = k) (ha : PD X a ρ (.bool i) ρ1) (hb : PD X b ρ1 (.bool j) ρ2) : TD X (.Compare a [.Eq] [b] pos) ρ k ρ2 :=
  td_cmp op_eq (fun F H v w Q e r1 r2 q => by
    rw [rp_bool r1, rp_bool r2]
    refine ⟨rfl, q _ F H (.refl e) ?_⟩
    subst hk
    cases i <;> cases j <;> exact .bl _) ha hb (nomark _)
end
def resOf (cn : Str) : Str := if cn = "NotNow" then "late" else if cn = "InvalidNumber" then "number" else "paper"
def BadC (c : Int) (x y u v : PyData) (cn : Str) : Prop := (c = 0 ∧ cn = "NotNow" ∧ ∃ h a, x = dL PyData.int h ∧ y = dL PyData.int a ∧ ((Am h ∧ Am a ∧ h.length = a.length) ∧ m_fits h a = false)) ∨
  (c = 1 ∧ ∃ (h : List Int) (i j : Int), x = dL PyData.int h ∧ u = .int i ∧ v = .int j ∧ Am h ∧ ((cn = "InvalidNumber" ∧ ¬ Rng h i j) ∨ (cn = "InvalidNumber" ∧ Rng h i j ∧ isDct y = false ∧ isNum y 0 1000000 = false) ∨ (cn = "NotNow" ∧ Rng h i j ∧ ∃ n : Int, y = .int n ∧ 0 ≤ n ∧ n ≤ 1000000 ∧ gI h j < n))) ∨
  (c = 2 ∧ cn = "InvalidPaper" ∧ ∃ h a, x = dL PyData.int h ∧ y = dL PyData.int a ∧ ((Am h ∧ Am a ∧ h.length = a.length) ∧ m_is_better h a = false)) ∨
  (c = 3 ∧ cn = "InvalidPaper" ∧ ∃ (h a : List Int), x = dL PyData.int h ∧ y = dL PyData.int a ∧ ((Am h ∧ Am a ∧ h.length = a.length) ∧ isDct u = false ∧ isNum u 0 ((h.length : Int) - 1) = false))
def fsOf (cn : Str) : List (Str × PyData) := if cn = "NotNow" then [("reason", .str "too few")] else []
def S__law_refused (ds : List PyData) (r : Res) : Prop := ∃ (c : Int) (x y u v : PyData) (cn : Str), ds = [.int c, x, y, u, v] ∧ BadC c x y u v cn ∧ r = .ret (.str (resOf cn))
theorem f__law_refused (Y : Py P K mg) {fd : FuncData} (F : FunD K "_law_refused" "_law_refused" (defArgs s__law_refused) (defBody s__law_refused) (defScope s__law_refused) [] [] (He.ga K "_law_refused") fd) : FnOk P w K mg base (L2N.CX P w) 8 (He.ga K "_law_refused") fd [("choice" : Str), ("has" : Str), ("asks" : Str), ("one" : Str), ("two" : Str)] (spD K S__law_refused) := by
  refine fn_DD F sc__law_refused (fun ds r h => by obtain ⟨_, _, _, _, _, _, rfl, _⟩ := h; rfl) (by decide) (fun cdv A outer s H E hr ds r h => ?_)
  obtain ⟨c, x, y, u, v, cn, rfl, hb, rfl⟩ := h
  refine bd_env (ρ' := [.d (PyData.int c), .d x, .d y, .d u, .d v, .un]) rfl ?_
  have hcn : cn = "NotNow" ∨ cn = "InvalidNumber" ∨ cn = "InvalidPaper" := by
    rcases hb with ⟨_, e, _⟩ | ⟨_, _, _, _, _, _, _, _, ⟨e, _⟩ | ⟨e, _⟩ | ⟨e, _⟩⟩ | ⟨_, e, _⟩ | ⟨_, e, _⟩ <;> simp [e]
  refine bd_guard_end (sd_try_late 5 (C1 := He.ga K "NotNow") (c2 := .ref (He.ga K "GrainError")) (fun cls fs ρ' => cls = .ref (He.ga K cn) ∧ fs = fsOf cn ∧ ρ' = [.d (PyData.int c), .d x, .d y, .d u, .d v, .un]) rfl rfl sc__law_refused.nd ⟨rfl, by decide, .inl Y.g_NotNow⟩ ⟨rfl, by decide, .inl Y.x_GrainError.mg⟩ (L2N.takes_of rfl rfl rfl rfl) ⟨Y.e_NotNow.hg, Y.e_NotNow.hk, Y.e_NotNow.hs, Y.e_NotNow.hd⟩ Y.n_NotNow.sup.noF (fun W pn xe tk po => ?_) (fun cls fs ρ' hM => ?_))
  · rcases hb with ⟨rfl, rfl, h, a, rfl, rfl, hp⟩ | ⟨rfl, h, i, j, rfl, rfl, rfl, ph, hb⟩ | ⟨rfl, rfl, h, a, rfl, rfl, hp⟩ | ⟨rfl, rfl, h, a, rfl, rfl, hp⟩
    · exact bd_one (sd_if (k := decide ((0 : Int) = 0)) (td_eqI (pd_var 0 rfl) pd_int) (fun _ => bd_one (sd_exprX (px_call tk (c_least_raised_bad Y) hr .nil (ad_cons (pd_var 1 rfl) (ad_cons (pd_var 2 rfl) ad_nil)) ⟨h, a, rfl, hp, rfl⟩) ⟨rfl, rfl, rfl⟩)) (fun h => absurd h (by decide)))
    · rcases hb with ⟨rfl, nr⟩ | ⟨rfl, rg, nd, hbad⟩ | ⟨rfl, rg, n, rfl, n0, n1, n2⟩
      · refine bd_one (sd_if (k := decide ((1 : Int) = 0)) (td_eqI (pd_var 0 rfl) pd_int) (fun h => absurd h (by decide)) (fun _ => ?_))
        exact bd_one (sd_if (k := decide ((1 : Int) = 1)) (td_eqI (pd_var 0 rfl) pd_int) (fun _ => bd_one (sd_exprX (px_call tk (c_mixed_bad Y) hr .nil (ad_cons (pd_var 1 rfl) (ad_cons (pd_var 3 rfl) (ad_cons (pd_var 4 rfl) (ad_cons (pd_var 2 rfl) ad_nil)))) ⟨h, i, j, _, rfl, ph, .inl ⟨nr, rfl⟩⟩) ⟨rfl, rfl, rfl⟩)) (fun h => absurd h (by decide)))
      · refine bd_one (sd_if (k := decide ((1 : Int) = 0)) (td_eqI (pd_var 0 rfl) pd_int) (fun h => absurd h (by decide)) (fun _ => ?_))
        exact bd_one (sd_if (k := decide ((1 : Int) = 1)) (td_eqI (pd_var 0 rfl) pd_int) (fun _ => bd_one (sd_exprX (px_call tk (c_mixed_bad Y) hr .nil (ad_cons (pd_var 1 rfl) (ad_cons (pd_var 3 rfl) (ad_cons (pd_var 4 rfl) (ad_cons (pd_var 2 rfl) ad_nil)))) ⟨h, i, j, _, rfl, ph, .inr (.inl ⟨rg, nd, hbad, rfl⟩)⟩) ⟨rfl, rfl, rfl⟩)) (fun h => absurd h (by decide)))
      · refine bd_one (sd_if (k := decide ((1 : Int) = 0)) (td_eqI (pd_var 0 rfl) pd_int) (fun h => absurd h (by decide)) (fun _ => ?_))
        exact bd_one (sd_if (k := decide ((1 : Int) = 1)) (td_eqI (pd_var 0 rfl) pd_int) (fun _ => bd_one (sd_exprX (px_call tk (c_mixed_bad Y) hr .nil (ad_cons (pd_var 1 rfl) (ad_cons (pd_var 3 rfl) (ad_cons (pd_var 4 rfl) (ad_cons (pd_var 2 rfl) ad_nil)))) ⟨h, i, j, _, rfl, ph, .inr (.inr ⟨rg, n, rfl, n0, n1, n2, rfl⟩)⟩) ⟨rfl, rfl, rfl⟩)) (fun h => absurd h (by decide)))
    · refine bd_one (sd_if (k := decide ((2 : Int) = 0)) (td_eqI (pd_var 0 rfl) pd_int) (fun h => absurd h (by decide)) (fun _ => ?_))
      refine bd_one (sd_if (k := decide ((2 : Int) = 1)) (td_eqI (pd_var 0 rfl) pd_int) (fun h => absurd h (by decide)) (fun _ => ?_))
      exact bd_one (sd_if (k := decide ((2 : Int) = 2)) (td_eqI (pd_var 0 rfl) pd_int) (fun _ => bd_one (sd_exprX (px_call tk (c_steps_bad Y) hr .nil (ad_cons (pd_var 1 rfl) (ad_cons (pd_var 2 rfl) ad_nil)) ⟨h, a, rfl, hp, rfl⟩) ⟨rfl, rfl, rfl⟩)) (fun h => absurd h (by decide)))
    · refine bd_one (sd_if (k := decide ((3 : Int) = 0)) (td_eqI (pd_var 0 rfl) pd_int) (fun h => absurd h (by decide)) (fun _ => ?_))
      refine bd_one (sd_if (k := decide ((3 : Int) = 1)) (td_eqI (pd_var 0 rfl) pd_int) (fun h => absurd h (by decide)) (fun _ => ?_))
      refine bd_one (sd_if (k := decide ((3 : Int) = 2)) (td_eqI (pd_var 0 rfl) pd_int) (fun h => absurd h (by decide)) (fun _ => ?_))
      exact bd_one (sd_exprX (px_call tk (c_most_asked_bad Y) hr .nil (ad_cons (pd_var 1 rfl) (ad_cons (pd_var 2 rfl) (ad_cons (pd_var 3 rfl) ad_nil))) ⟨h, a, u, rfl, hp, rfl⟩) ⟨rfl, rfl, rfl⟩)
  · obtain ⟨rfl, rfl, rfl⟩ := hM
    rcases hcn with rfl | rfl | rfl
    · exact .inl ⟨Y.m_NotNow_NotNow, rfl, "too few", rfl, fun a => rfl⟩
    · exact .inr ⟨Y.m_InvalidNumber_NotNow, true, Y.m_InvalidNumber_GrainError, fun _ => ⟨rfl, fun a0 oe dd pn hz hf hd0 => by
        subst hd0
        exact (bd_guard (k := false) (td_w (wd_or_f (td_eqB (k := false) rfl (pd_isX (vc := .ref (He.ga K "InvalidNumber")) 5 Y.e_InvalidNumber hz hf Y.k_InvalidNumber_InvalidNumber (fun u r => r) Y.z_isinstance rfl (pe_glob rfl Y.x_InvalidNumber.mg (v := .ref (He.ga K "InvalidNumber")) rfl)) (pd_isX (vc := .ref (He.ga K "InvalidPaper")) 5 Y.e_InvalidNumber hz hf Y.k_InvalidNumber_InvalidPaper (fun u r => r) Y.z_isinstance rfl (pe_glob rfl Y.x_InvalidPaper.mg (v := .ref (He.ga K "InvalidPaper")) rfl))) (wd_or1 (td_cast (k := !true) rfl (td_not (td_val (pd_isX (vc := .ty "ValueError") 5 Y.e_InvalidNumber hz hf Y.k_InvalidNumber_ValueError (fun u r => r) Y.z_isinstance rfl (pe_cls Y.z_ValueError rfl)))))))) (fun h => nomatch h) (fun _ => bd_one (sd_ret (x := PyData.str (if true = true then "number" else "paper")) (pd_ift PyData.str "number" "paper" (td_val (pd_isX (vc := .ref (He.ga K "InvalidNumber")) 5 Y.e_InvalidNumber hz hf Y.k_InvalidNumber_InvalidNumber (fun u r => r) Y.z_isinstance rfl (pe_glob rfl Y.x_InvalidNumber.mg (v := .ref (He.ga K "InvalidNumber")) rfl))) (fun _ => pd_str) (fun _ => pd_str)) rfl)))⟩, fun h => nomatch h⟩
    · exact .inr ⟨Y.m_InvalidPaper_NotNow, true, Y.m_InvalidPaper_GrainError, fun _ => ⟨rfl, fun a0 oe dd pn hz hf hd0 => by
        subst hd0
        exact (bd_guard (k := false) (td_w (wd_or_f (td_eqB (k := false) rfl (pd_isX (vc := .ref (He.ga K "InvalidNumber")) 5 Y.e_InvalidPaper hz hf Y.k_InvalidPaper_InvalidNumber (fun u r => r) Y.z_isinstance rfl (pe_glob rfl Y.x_InvalidNumber.mg (v := .ref (He.ga K "InvalidNumber")) rfl)) (pd_isX (vc := .ref (He.ga K "InvalidPaper")) 5 Y.e_InvalidPaper hz hf Y.k_InvalidPaper_InvalidPaper (fun u r => r) Y.z_isinstance rfl (pe_glob rfl Y.x_InvalidPaper.mg (v := .ref (He.ga K "InvalidPaper")) rfl))) (wd_or1 (td_cast (k := !true) rfl (td_not (td_val (pd_isX (vc := .ty "ValueError") 5 Y.e_InvalidPaper hz hf Y.k_InvalidPaper_ValueError (fun u r => r) Y.z_isinstance rfl (pe_cls Y.z_ValueError rfl)))))))) (fun h => nomatch h) (fun _ => bd_one (sd_ret (x := PyData.str (if false = true then "number" else "paper")) (pd_ift PyData.str "number" "paper" (td_val (pd_isX (vc := .ref (He.ga K "InvalidNumber")) 5 Y.e_InvalidPaper hz hf Y.k_InvalidPaper_InvalidNumber (fun u r => r) Y.z_isinstance rfl (pe_glob rfl Y.x_InvalidNumber.mg (v := .ref (He.ga K "InvalidNumber")) rfl))) (fun _ => pd_str) (fun _ => pd_str)) rfl)))⟩, fun h => nomatch h⟩
theorem c__law_refused (Y : Py P K mg) : Cal P w K mg base 8 "_law_refused" (spD K S__law_refused) [] := by
  obtain ⟨fd, F⟩ := Y.d__law_refused
  exact ⟨_, fd, _, [], f__law_refused Y F, Y.g__law_refused, F.kp, F.bindsN (ps := [("choice" : Str), ("has" : Str), ("asks" : Str), ("one" : Str), ("two" : Str)]) fun _ _ _ _ _ _ us hl => match us, hl with | [_, _, _, _, _], _ => rfl, .nil⟩
end
end GP

namespace GP
open PySem PySem.Spec PyProof.Rows L2 G
section
variable {P : Program} {w : World} {K : PySem.W.Frag} {mg : Str → Option Value} {base : Heap}

theorem bad79 {d : PyData} (h : d ∈ ([PyData.int (-1), PyData.int 1000001, PyData.bool true] : List PyData)) : isDct d = false ∧ isNum d 0 1000000 = false := by
  simp only [List.mem_cons, List.not_mem_nil, or_false] at h
  rcases h with rfl | rfl | rfl
  · exact ⟨rfl, by decide⟩
  · exact ⟨rfl, by decide⟩
  · exact ⟨rfl, rfl⟩

theorem inj__law_mixed_right {has_ has_' : (List Int)} (h : ([((dL PyData.int) has_)] : List PyData) = [((dL PyData.int) has_')]) : has_ = has_' := by
  simp only [List.cons.injEq, PyData.int.injEq, PyData.bool.injEq, PyData.str.injEq, PyData.list.injEq, and_true] at h
  exact mapf_inj int_inj h
def S__law_mixed_right (ds : List PyData) : Prop := ∃ (has_ : (List Int)), ds = [((dL PyData.int) has_)] ∧ ((Am has_ ∧ 0 < has_.length) ∧ ∀ x ∈ has_, x ≤ 7)
def R__law_mixed_right (has_ : (List Int)) (y : PyData) : Prop := ∃ (z_ : Bool), y = (PyData.bool z_) ∧ (z_ = true)
abbrev Q__law_mixed_right : List PyData → PyData → Prop := (fun ds y => ∀ (has_ : (List Int)), ds = [((dL PyData.int) has_)] → R__law_mixed_right has_ y)
theorem f__law_mixed_right (Y : Py P K mg) {fd : FuncData} (F : FunD K "_law_mixed_right" "_law_mixed_right" (defArgs s__law_mixed_right) (defBody s__law_mixed_right) (defScope s__law_mixed_right) [] [] (He.ga K "_law_mixed_right") fd) : FnOk P w K mg base (L2N.CX P w) 9 (He.ga K "_law_mixed_right") fd [("pool" : Str), ("has" : Str)] (spP K S__law_mixed_right Q__law_mixed_right) := by
  refine fn_PD F sc__law_mixed_right (fun ds h => by obtain ⟨_, rfl, _⟩ := h; rfl) (by decide) (fun cdv A outer s H E hr l_ p_ ds h => ?_)
  obtain ⟨has_, rfl, pre⟩ := h
  refine bd_env (ρ' := [.o (some l_) (.l (pl p_)), .d ((dL PyData.int) has_), .un, .un, .un, .un, .un]) rfl ?_
  obtain ⟨⟨ph, p0⟩, p7⟩ := pre
  have phl := ph.len
  refine bd_seq (sd_set 2 (pd_lenD (f := PyData.int) (ns := has_) Y.z_len (pd_var 1 rfl)) rfl sc__law_mixed_right.nd) ?_
  refine bd_env (ρ' := [.o (some l_) (.l (pl p_)), .d ((dL PyData.int) has_), .d (PyData.int (has_.length : Int)), .un, .un, .un, .un]) rfl ?_
  obtain ⟨v88, q89, hv88, bv88⟩ := drawS p_ (n := (has_.length : Int)) (by first | decide | omega) (by first | decide | omega)
  refine bd_seq (sd_set 3 (pd_callO (y := PyData.int v88) (xs' := pl q89) 0 (c__law_draw Y) hr .nil rfl (ad_cons (pd_var 2 rfl) ad_nil) rfl hv88) rfl sc__law_mixed_right.nd) ?_
  refine bd_env (ρ' := [.o (some l_) (.l (pl q89)), .d ((dL PyData.int) has_), .d (PyData.int (has_.length : Int)), .d (PyData.int v88), .un, .un, .un]) rfl ?_
  obtain ⟨v90, q91, hv90, bv90⟩ := drawS q89 (n := ((has_.length : Int) - v88)) (by first | decide | omega) (by first | decide | omega)
  refine bd_seq (sd_set 4 (pd_add (pd_var 3 rfl) (pd_callO (y := PyData.int v90) (xs' := pl q91) 0 (c__law_draw Y) hr .nil rfl (ad_cons (pd_sub (pd_var 2 rfl) (pd_var 3 rfl)) ad_nil) rfl hv90)) rfl sc__law_mixed_right.nd) ?_
  refine bd_env (ρ' := [.o (some l_) (.l (pl q91)), .d ((dL PyData.int) has_), .d (PyData.int (has_.length : Int)), .d (PyData.int v88), .d (PyData.int (v88 + v90)), .un, .un]) rfl ?_
  obtain ⟨high_92, hhigh_92⟩ : ∃ z : Int, ((v88 + v90) : Int) = z := ⟨_, rfl⟩
  refine bd_env (ρ' := [.o (some l_) (.l (pl q91)), .d ((dL PyData.int) has_), .d (PyData.int (has_.length : Int)), .d (PyData.int v88), .d (PyData.int high_92), .un, .un]) (by rw [← hhigh_92]) ?_
  have hb7 := ph.bd _ (gI_mem (xs := has_) (i := high_92) (by omega))
  have hb8 := p7 _ (gI_mem (xs := has_) (i := high_92) (by omega))
  obtain ⟨v93, q94, hv93, bv93⟩ := drawS q91 (n := ((gI has_ high_92) + 2)) (by first | decide | omega) (by first | decide | omega)
  refine bd_seq (sd_set 5 (pd_callO (y := PyData.int v93) (xs' := pl q94) 0 (c__law_draw Y) hr .nil rfl (ad_cons (pd_add (pd_gixD (f := PyData.int) (ns := has_) (i := high_92) (/- side 0 -/ by omega) (pd_var 1 rfl) (pd_var 4 rfl)) pd_int) ad_nil) rfl hv93) rfl sc__law_mixed_right.nd) ?_
  refine bd_env (ρ' := [.o (some l_) (.l (pl q94)), .d ((dL PyData.int) has_), .d (PyData.int (has_.length : Int)), .d (PyData.int v88), .d (PyData.int high_92), .d (PyData.int v93), .un]) rfl ?_
  -- hk95: if loads > has[high]
  refine bd_cut (fun r => (True) ∧ Le [.o (some l_) (.l (pl q94)), .d ((dL PyData.int) has_), .d (PyData.int (has_.length : Int)), .d (PyData.int v88), .d (PyData.int high_92), .d (PyData.int v93), .un] r) (sd_if (k := (decide ((gI has_ high_92) < v93))) (td_gt (pd_var 5 rfl) (pd_gixD (f := PyData.int) (ns := has_) (i := high_92) (/- side 1 -/ by omega) (pd_var 1 rfl) (pd_var 4 rfl))) (fun hk95 => ?_) (fun hk95 => ?_)) ?_
  · skip
    have hk95f := hk95; try simp only [decide_eq_true_eq, decide_eq_false_iff_not, Bool.and_eq_true, Bool.or_eq_true, Bool.not_eq_true', Bool.not_eq_false', Bool.and_eq_false_iff, Bool.or_eq_false_iff, Bool.not_true, Bool.not_false, List.isEmpty_iff] at hk95f
    -- hk96: if _law_refused(1, has, loads, low, high) != 'late'
    refine bd_guard (k := false) (td_cast (k := (!(decide ((resOf "NotNow") = ("late" : Str))))) (by decide +kernel) (td_neS (pd_call (c__law_refused Y) hr .nil (ad_cons pd_int (ad_cons (pd_var 1 rfl) (ad_cons (pd_var 5 rfl) (ad_cons (pd_var 3 rfl) (ad_cons (pd_var 4 rfl) ad_nil))))) ⟨1, ((dL PyData.int) has_), (PyData.int v93), (PyData.int v88), (PyData.int high_92), "NotNow", rfl, .inr (.inl ⟨rfl, has_, v88, high_92, rfl, rfl, rfl, ph, .inr (.inr ⟨rfl, ⟨by omega, by omega, by omega⟩, v93, rfl, by omega, by omega, by omega⟩)⟩), rfl⟩) pd_str)) (fun h => nomatch h) (fun _ => ?_)
    exact bd_nil ⟨(by trivial), (by repeat (first | exact Le.nil | apply Le.eq | apply Le.un))⟩
  · skip
    have hk95f := hk95; try simp only [decide_eq_true_eq, decide_eq_false_iff_not, Bool.and_eq_true, Bool.or_eq_true, Bool.not_eq_true', Bool.not_eq_false', Bool.and_eq_false_iff, Bool.or_eq_false_iff, Bool.not_true, Bool.not_false, List.isEmpty_iff] at hk95f
    refine bd_seq (sd_setN 6 (pn_list Y.z_list (pq_d (pd_var 1 rfl)) srcN) rfl sc__law_mixed_right.nd) ?_
    refine bd_env (ρ' := [.o (some l_) (.l (pl q94)), .d ((dL PyData.int) has_), .d (PyData.int (has_.length : Int)), .d (PyData.int v88), .d (PyData.int high_92), .d (PyData.int v93), .ol (has_.map PyData.int)]) rfl ?_
    refine bd_seq (sd_setixM (f := PyData.int) (ns := has_) (ix := high_92) (v := ((gI has_ high_92) - v93)) 6 (pd_sub (pd_gixO (f := PyData.int) (ns := has_) (i := high_92) 6 rfl (pd_var 4 rfl) rfl (/- side 2 -/ by omega)) (pd_var 5 rfl)) rfl (pd_var 4 rfl) rfl (/- side 3 -/ by omega) rfl) ?_
    refine bd_env (ρ' := [.o (some l_) (.l (pl q94)), .d ((dL PyData.int) has_), .d (PyData.int (has_.length : Int)), .d (PyData.int v88), .d (PyData.int high_92), .d (PyData.int v93), .ol ((setI has_ high_92 ((gI has_ high_92) - v93)).map PyData.int)]) rfl ?_
    refine bd_seq (sd_setixM (f := PyData.int) (ns := (setI has_ high_92 ((gI has_ high_92) - v93))) (ix := v88) (v := ((gI (setI has_ high_92 ((gI has_ high_92) - v93)) v88) + v93)) 6 (pd_add (pd_gixO (f := PyData.int) (ns := (setI has_ high_92 ((gI has_ high_92) - v93))) (i := v88) 6 rfl (pd_var 3 rfl) rfl (/- side 4 -/ by rw [setI_len]; omega)) (pd_var 5 rfl)) rfl (pd_var 3 rfl) rfl (/- side 5 -/ by rw [setI_len]; omega) rfl) ?_
    refine bd_env (ρ' := [.o (some l_) (.l (pl q94)), .d ((dL PyData.int) has_), .d (PyData.int (has_.length : Int)), .d (PyData.int v88), .d (PyData.int high_92), .d (PyData.int v93), .ol ((setI (setI has_ high_92 ((gI has_ high_92) - v93)) v88 ((gI (setI has_ high_92 ((gI has_ high_92) - v93)) v88) + v93)).map PyData.int)]) rfl ?_
    -- hk97: if not _law_same(mixed(has, low, high, loads), due)
    refine bd_guard (k := false) (td_cast (k := (!true)) (by rfl) (td_not (td_val (pd_call (c__law_same Y 1) hr .nil (ad_cons (pd_cast (y := ((dL PyData.int) (setI (setI has_ high_92 ((gI has_ high_92) - v93)) v88 ((gI (setI has_ high_92 ((gI has_ high_92) - v93)) v88) + v93)))) (/- side 8 -/ by rfl) (pd_n (pn_call (c_mixed Y) hr .nil (ad_cons (pd_var 1 rfl) (ad_cons (pd_var 3 rfl) (ad_cons (pd_var 4 rfl) (ad_cons (pd_var 5 rfl) ad_nil)))) ⟨has_, v88, high_92, v93, rfl, (/- side 6 -/ by exact ⟨ph, ⟨by omega, by omega, by omega⟩, by omega, by omega⟩), rfl⟩))) (ad_cons (pd_thaw 6 rfl) ad_nil)) ⟨_, rfl, (.lst (/- side 7 -/ by rw [List.length_map, setI_len, setI_len]; omega) (nice_all fun _ _ => (.int _))), rfl⟩)))) (fun h => nomatch h) (fun _ => ?_)
    exact bd_nil ⟨(by trivial), (by repeat (first | exact Le.nil | apply Le.eq | apply Le.un))⟩
  rintro r ⟨hj, hle⟩
  refine bd_le hle ?_
  clear hle
  -- hk98: if _law_refused(1, has, 0, many, many) != 'number' or _law_refused(1, has, 0, -1, 0) != 'number'
  refine bd_guard (k := false) (td_cast (k := ((!(decide ((resOf "InvalidNumber") = ("number" : Str)))) || (!(decide ((resOf "InvalidNumber") = ("number" : Str)))))) (by decide +kernel) (td_w (wd_or (td_neS (pd_call (c__law_refused Y) hr .nil (ad_cons pd_int (ad_cons (pd_var 1 rfl) (ad_cons pd_int (ad_cons (pd_var 2 rfl) (ad_cons (pd_var 2 rfl) ad_nil))))) ⟨1, ((dL PyData.int) has_), (PyData.int 0), (PyData.int (has_.length : Int)), (PyData.int (has_.length : Int)), "InvalidNumber", rfl, .inr (.inl ⟨rfl, has_, _, _, rfl, rfl, rfl, ph, .inl ⟨rfl, fun z => by have := z.2.2; omega⟩⟩), rfl⟩) pd_str) (fun hw => (wd_or1 (td_neS (pd_call (c__law_refused Y) hr .nil (ad_cons pd_int (ad_cons (pd_var 1 rfl) (ad_cons pd_int (ad_cons (pd_neg pd_int) (ad_cons pd_int ad_nil))))) ⟨1, ((dL PyData.int) has_), (PyData.int 0), (PyData.int (-1)), (PyData.int 0), "InvalidNumber", rfl, .inr (.inl ⟨rfl, has_, _, _, rfl, rfl, rfl, ph, .inl ⟨rfl, fun z => by have := z.1; omega⟩⟩), rfl⟩) pd_str)))))) (fun h => nomatch h) (fun _ => ?_)
  -- hk99: if high > 0 and _law_refused(1, has, 0, high, high - 1) != 'number'
  refine bd_guard (k := false) (td_cast (k := ((decide (0 < high_92)) && (!(decide ((resOf "InvalidNumber") = ("number" : Str)))))) (by rw [show (!decide (resOf "InvalidNumber" = ("number" : Str))) = false by decide +kernel, Bool.and_false]) (td_w (wd_and (td_gt (pd_var 4 rfl) pd_int) (fun hw => (wd_and1 (td_neS (pd_call (c__law_refused Y) hr .nil (ad_cons pd_int (ad_cons (pd_var 1 rfl) (ad_cons pd_int (ad_cons (pd_var 4 rfl) (ad_cons (pd_sub (pd_var 4 rfl) pd_int) ad_nil))))) ⟨1, ((dL PyData.int) has_), (PyData.int 0), (PyData.int high_92), (PyData.int (high_92 - 1)), "InvalidNumber", rfl, .inr (.inl ⟨rfl, has_, _, _, rfl, rfl, rfl, ph, .inl ⟨rfl, fun z => by have := z.2.1; omega⟩⟩), rfl⟩) pd_str)))))) (fun h => nomatch h) (fun _ => ?_)
  obtain ⟨v100, q101, mv100, hv100⟩ := pickS q94 ([(PyData.int (-1)), (PyData.int 1000001), (PyData.bool true)] : List PyData) (fun d : PyData => d) (by first | decide | (simp; done) | omega | (simp; omega)) (by first | decide | (simp; done) | omega | (simp; omega))
  refine bd_one (sd_ret (x := (PyData.bool (decide ((resOf "InvalidNumber") = ("number" : Str))))) (pd_eqS (pd_call (c__law_refused Y) hr .nil (ad_cons pd_int (ad_cons (pd_var 1 rfl) (ad_cons (pd_callO (y := v100) (xs' := pl q101) 0 (c__law_pick Y) hr .nil rfl (ad_cons (pd_n (pn_lst (ad_cons (pd_neg pd_int) (ad_cons pd_int (ad_cons pd_bl ad_nil))))) ad_nil) rfl hv100) (ad_cons (pd_var 3 rfl) (ad_cons (pd_var 4 rfl) ad_nil))))) ⟨1, ((dL PyData.int) has_), v100, (PyData.int v88), (PyData.int high_92), "InvalidNumber", rfl, .inr (.inl ⟨rfl, has_, _, _, rfl, rfl, rfl, ph, .inr (.inl ⟨rfl, ⟨by omega, by omega, by omega⟩, (bad79 (by assumption)).1, (bad79 (by assumption)).2⟩)⟩), rfl⟩) pd_str) ?_)
  refine ⟨fun z0_ e9 => ?_, _, rfl⟩
  obtain ⟨rfl⟩ := inj__law_mixed_right e9
  exact ⟨(decide ((resOf "InvalidNumber") = ("number" : Str))), rfl, by decide +kernel⟩
theorem c__law_mixed_right (Y : Py P K mg) : Cal P w K mg base 9 "_law_mixed_right" (spP K S__law_mixed_right Q__law_mixed_right) [] := by
  obtain ⟨fd, F⟩ := Y.d__law_mixed_right
  exact ⟨_, fd, _, [], f__law_mixed_right Y F, Y.g__law_mixed_right, F.kp, F.bindsN (ps := [("pool" : Str), ("has" : Str)]) fun _ _ _ _ _ _ us hl => match us, hl with | [_, _], _ => rfl, .nil⟩
end
end GP
namespace GP
open PySem PySem.Spec PyProof.Rows L2 G
section
variable {P : Program} {w : World} {K : PySem.W.Frag} {mg : Str → Option Value} {base : Heap}
theorem law_fn {fd : FuncData} (F : FunD K "law" "law" (defArgs s_law) (defBody s_law) (defScope s_law) [] [] (He.ga K "law") fd) (Y : Py P K mg) : FnOk P w K mg base (L2N.CX P w) 20 (He.ga K "law") fd ["script"] (spD K LawS) := by
  refine fn_DD F sc_law (fun ds r h => by obtain ⟨_, rfl, _⟩ := h; rfl) (by decide) (fun cdv A outer s H E hr ds r h => ?_)
  obtain ⟨ns_, rfl, hl_, rfl⟩ := h
  refine bd_env (ρ' := [.d ((dL PyData.int) ns_), .un, .un, .un, .un, .un, .un, .un, .un, .un, .un, .un, .un, .un, .un, .un, .un, .un, .un, .un, .un]) rfl ?_
  refine bd_seq (sd_setN 1 (pn_call (c__law_pool Y) hr .nil (ad_cons (pd_var 0 rfl) ad_nil) ⟨ns_, rfl, rfl⟩) rfl sc_law.nd) ?_
  generalize (⟨ns_, 0, 0, 0, 0⟩ : Pool) = q88
  refine bd_env (ρ' := [.d ((dL PyData.int) ns_), .o none (.l (pl q88)), .un, .un, .un, .un, .un, .un, .un, .un, .un, .un, .un, .un, .un, .un, .un, .un, .un, .un, .un]) rfl ?_
  obtain ⟨v89, q90, hv89, bv89⟩ := drawS q88 (n := 4) (by first | decide | omega) (by first | decide | omega)
  refine bd_seq (sd_set 2 (pd_add pd_int (pd_callO (y := PyData.int v89) (xs' := pl q90) 1 (c__law_draw Y) hr .nil rfl (ad_cons pd_int ad_nil) rfl hv89)) rfl sc_law.nd) ?_
  refine bd_env (ρ' := [.d ((dL PyData.int) ns_), .o none (.l (pl q90)), .d (PyData.int (1 + v89)), .un, .un, .un, .un, .un, .un, .un, .un, .un, .un, .un, .un, .un, .un, .un, .un, .un, .un]) rfl ?_
  obtain ⟨many_91, hmany_91⟩ : ∃ z : Int, ((1 + v89) : Int) = z := ⟨_, rfl⟩
  refine bd_env (ρ' := [.d ((dL PyData.int) ns_), .o none (.l (pl q90)), .d (PyData.int many_91), .un, .un, .un, .un, .un, .un, .un, .un, .un, .un, .un, .un, .un, .un, .un, .un, .un, .un]) (by rw [← hmany_91]) ?_
  refine bd_cut (fun r => ∃ (has_92 : List Int) (q93 : Pool), AmC 4 many_91 has_92 ∧ r = [.d ((dL PyData.int) ns_), .o none (.l (pl q93)), .d (PyData.int many_91), .d ((dL PyData.int) has_92), .un, .un, .un, .un, .un, .un, .un, .un, .un, .un, .un, .un, .un, .un, .un, .un, .un]) (sd_setP 3 (pp_lcR (lcR (own := [("amount", 4)]) PyData.int PyData.int (fun a_ : Int => (min 4 a_)) (fun xs r => AmL many_91 xs ∧ ∃ q93, r = [.d ((dL PyData.int) ns_), .o none (.l (pl q93)), .d (PyData.int many_91), .un, .un, .un, .un, .un, .un, .un, .un, .un, .un, .un, .un, .un, .un, .un, .un, .un, .un]) (blkOk_by (own := [("amount", 4)]) (show blkC n_law (defScope s_law) _ _ = true by decide +kernel)) (pp_imp (pp_call (q := q90) 1 (c__law_amounts Y) hr .nil rfl (ad_cons (pd_var 2 rfl) ad_nil) rfl ⟨many_91, rfl, (/- side 0 -/ by first | trivial | assumption | omega | (refine ⟨?_, ?_⟩ <;> omega) | (refine ⟨?_, ?_, ?_⟩ <;> omega))⟩) (fun y r h => ?_)) (fun xs r h => ?_) (fun xs r h a_ ha => ?_)) sc_law.nd) (fun ys r h => ?_) sc_law.nd) ?_
  · obtain ⟨h1, q9, rfl⟩ := h
    obtain ⟨z9, rfl, h2⟩ := h1 _ rfl
    exact ⟨z9, rfl, h2, q9, rfl⟩
  · have h1 := h.1.1; omega
  · obtain ⟨h1, q9, rfl⟩ := h
    exact ⟨_, _, (fun Z hZ => by obtain ⟨s1, H1, C1, cl1, fp1, rfl⟩ := hZ; exact (gv_name 4 (by decide) sc_law.nd)), (fun Z hZ => by obtain ⟨s1, H1, C1, cl1, fp1, rfl⟩ := hZ; exact (pd_min2 rfl Y.z_min pd_int (pd_var 4 rfl))), (by repeat (first | exact Le.nil | apply Le.eq | apply Le.un)), (by repeat (first | exact Le.nil | apply Le.eq | apply Le.un))⟩
  · obtain ⟨_, rfl, xs9, r9, rfl, ⟨h1, q9, rfl⟩, rfl⟩ := h
    exact ⟨_, q9, amc_min (by decide) h1, rfl⟩
  rintro r ⟨has_92, q93, hchas, rfl⟩
  refine bd_cut (fun r => ∃ (asks_94 : List Int) (q95 : Pool), AmC 3 many_91 asks_94 ∧ r = [.d ((dL PyData.int) ns_), .o none (.l (pl q95)), .d (PyData.int many_91), .d ((dL PyData.int) has_92), .un, .d ((dL PyData.int) asks_94), .un, .un, .un, .un, .un, .un, .un, .un, .un, .un, .un, .un, .un, .un, .un]) (sd_setLcR 5 (lcR (own := [("amount", 4)]) PyData.int PyData.int (fun a_ : Int => (min 3 a_)) (fun xs r => AmL many_91 xs ∧ ∃ q95, r = [.d ((dL PyData.int) ns_), .o none (.l (pl q95)), .d (PyData.int many_91), .d ((dL PyData.int) has_92), .un, .un, .un, .un, .un, .un, .un, .un, .un, .un, .un, .un, .un, .un, .un, .un, .un]) (blkOk_by (own := [("amount", 4)]) (show blkC n_law (defScope s_law) _ _ = true by decide +kernel)) (pp_imp (pp_call (q := q93) 1 (c__law_amounts Y) hr .nil rfl (ad_cons (pd_var 2 rfl) ad_nil) rfl ⟨many_91, rfl, (/- side 1 -/ by first | trivial | assumption | omega | (refine ⟨?_, ?_⟩ <;> omega) | (refine ⟨?_, ?_, ?_⟩ <;> omega))⟩) (fun y r h => ?_)) (fun xs r h => ?_) (fun xs r h a_ ha => ?_)) (fun ys r h => ?_) sc_law.nd) ?_
  · obtain ⟨h1, q9, rfl⟩ := h
    obtain ⟨z9, rfl, h2⟩ := h1 _ rfl
    exact ⟨z9, rfl, h2, q9, rfl⟩
  · have h1 := h.1.1; omega
  · obtain ⟨h1, q9, rfl⟩ := h
    exact ⟨_, _, (fun Z hZ => by obtain ⟨s1, H1, C1, cl1, fp1, rfl⟩ := hZ; exact (gv_name 4 (by decide) sc_law.nd)), (fun Z hZ => by obtain ⟨s1, H1, C1, cl1, fp1, rfl⟩ := hZ; exact (pd_min2 rfl Y.z_min pd_int (pd_var 4 rfl))), (by repeat (first | exact Le.nil | apply Le.eq | apply Le.un)), (by repeat (first | exact Le.nil | apply Le.eq | apply Le.un))⟩
  · obtain ⟨xs9, r9, rfl, ⟨h1, q9, rfl⟩, rfl⟩ := h
    exact ⟨_, q9, amc_min (by decide) h1, rfl⟩
  rintro r ⟨asks_94, q95, hcasks, rfl⟩
  have hHm := hchas.aml (by decide)
  have hAm := hcasks.aml (by decide)
  have hH : Am has_92 := hHm.am (by omega)
  have hA : Am asks_94 := hAm.am (by omega)
  have hHl := hHm.1
  have hAl := hAm.1
  have hL2 : (has_92).length = (asks_94).length := by omega
  have hHn : ∀ x ∈ has_92, 0 ≤ x := fun x hx => (hH.bd x hx).1
  have hAn : ∀ x ∈ asks_94, 0 ≤ x := fun x hx => (hA.bd x hx).1
  have hA100 : ∀ x ∈ asks_94, 0 ≤ x ∧ x ≤ 100 := fun x hx => by have := hAm.2 x hx; omega
  refine bd_seq (sd_set 6 (pd_call (c__law_over Y) hr .nil (ad_cons (pd_var 3 rfl) (ad_cons (pd_var 5 rfl) ad_nil)) ⟨has_92, asks_94, rfl, (/- side 2 -/ by exact ⟨hL2, by omega⟩), rfl⟩) rfl sc_law.nd) ?_
  refine bd_env (ρ' := [.d ((dL PyData.int) ns_), .o none (.l (pl q95)), .d (PyData.int many_91), .d ((dL PyData.int) has_92), .un, .d ((dL PyData.int) asks_94), .d ((dL PyData.int) (m__law_over has_92 asks_94)), .un, .un, .un, .un, .un, .un, .un, .un, .un, .un, .un, .un, .un, .un]) rfl ?_
  obtain ⟨rows_96, hrows_96⟩ : ∃ z : (List Int), ((m__law_over has_92 asks_94) : (List Int)) = z := ⟨_, rfl⟩
  refine bd_env (ρ' := [.d ((dL PyData.int) ns_), .o none (.l (pl q95)), .d (PyData.int many_91), .d ((dL PyData.int) has_92), .un, .d ((dL PyData.int) asks_94), .d ((dL PyData.int) rows_96), .un, .un, .un, .un, .un, .un, .un, .un, .un, .un, .un, .un, .un, .un]) (by rw [← hrows_96]) ?_
  have hR : m_over has_92 asks_94 = rows_96 := hrows_96
  have hRl : (rows_96).length = (has_92).length := by rw [← hR]; exact over_len _ _
  refine bd_seq (sd_set 7 (pd_call (c__law_given Y) hr .nil (ad_cons (pd_var 3 rfl) (ad_cons (pd_var 5 rfl) ad_nil)) ⟨has_92, asks_94, rfl, (/- side 3 -/ by exact ⟨hH, hA, hL2⟩), rfl⟩) rfl sc_law.nd) ?_
  refine bd_env (ρ' := [.d ((dL PyData.int) ns_), .o none (.l (pl q95)), .d (PyData.int many_91), .d ((dL PyData.int) has_92), .un, .d ((dL PyData.int) asks_94), .d ((dL PyData.int) rows_96), .d ((dL (dT3 PyData.int PyData.int PyData.int)) (m_allotted has_92 asks_94)), .un, .un, .un, .un, .un, .un, .un, .un, .un, .un, .un, .un, .un]) rfl ?_
  obtain ⟨due_97, hdue_97⟩ : ∃ z : (List (Int × Int × Int)), ((m_allotted has_92 asks_94) : (List (Int × Int × Int))) = z := ⟨_, rfl⟩
  refine bd_env (ρ' := [.d ((dL PyData.int) ns_), .o none (.l (pl q95)), .d (PyData.int many_91), .d ((dL PyData.int) has_92), .un, .d ((dL PyData.int) asks_94), .d ((dL PyData.int) rows_96), .d ((dL (dT3 PyData.int PyData.int PyData.int)) due_97), .un, .un, .un, .un, .un, .un, .un, .un, .un, .un, .un, .un, .un]) (by rw [← hdue_97]) ?_
  have hD : m_allotted has_92 asks_94 = due_97 := hdue_97
  have hDb := due_bd hL2 hHn hAm (by omega)
  have hDr := due_ok hL2 hHn hAn
  rw [hD] at hDb hDr
  have hD1 := hDb.1
  -- hk99: if not _law_same(raised(due), sum([(row[0] - row[1]) * row[2] for row in due])) or not _law_same(allotted(has, asks), due)
  refine bd_guard (k := false) (td_cast (k := ((!true) || (!true))) (by rfl) (td_w (wd_or (td_not (td_val (pd_call (c__law_same Y 0) hr .nil (ad_cons (pd_cast (y := (PyData.int ((due_97.map (fun (a98 : (Int × Int × Int)) => ((a98.1 - a98.2.1) * a98.2.2))).sum))) (/- side 7 -/ by first | rfl | exact congrArg _ (by assumption)) (pd_call (c_raised Y) hr .nil (ad_cons (pd_var 7 rfl) ad_nil) ⟨due_97, rfl, (/- side 4 -/ by exact ⟨by omega, fun r hr => by have := hDr r hr; omega⟩), rfl⟩)) (ad_cons (pd_sumD (ns := (due_97.map (fun (a98 : (Int × Int × Int)) => ((a98.1 - a98.2.1) * a98.2.2)))) rfl Y.z_sum (pd_n (pn_lc (lcN due_97 (dT3 PyData.int PyData.int PyData.int) PyData.int (fun (a98 : (Int × Int × Int)) => ((a98.1 - a98.2.1) * a98.2.2)) (blkOk_by (own := [("row", 8)]) (show blkC n_law (defScope s_law) _ _ = true by decide +kernel)) (id_listD (f := (dT3 PyData.int PyData.int PyData.int)) (ns := due_97) (pd_var 7 rfl)) (/- side 6 -/ by first | omega | assumption | (have hi := List.mem_range.mp ha; omega) | (rw [List.length_range]; omega)) (by intro _ h; cases h) (by trivial) (fun a98 ha => ⟨_, _, (fun Z hZ => by obtain ⟨s1, H1, C1, cl1, fp1, rfl⟩ := hZ; exact (gv_name 8 (by decide) sc_law.nd)), (fun Z hZ => by obtain ⟨s1, H1, C1, cl1, fp1, rfl⟩ := hZ; exact (pd_mul (/- side 5 -/ by have h9 := hDr _ ha; exact .inl (by omega)) (pd_sub (pd_ixT (i := 0) rfl (pd_var 8 rfl) pd_int) (pd_ixT (i := 1) rfl (pd_var 8 rfl) pd_int)) (pd_ixT (i := 2) rfl (pd_var 8 rfl) pd_int))), (by repeat (first | exact Le.nil | apply Le.eq | apply Le.un)), (by repeat (first | exact Le.nil | apply Le.eq | apply Le.un))⟩)) sc_law.nd))) ad_nil)) ⟨_, rfl, (.int _), rfl⟩))) (fun hw => (wd_or1 (td_not (td_val (pd_call (c__law_same Y 2) hr .nil (ad_cons (pd_cast (y := ((dL (dT3 PyData.int PyData.int PyData.int)) due_97)) (/- side 10 -/ by first | rfl | exact congrArg _ (by assumption)) (pd_call (c_allotted Y) hr .nil (ad_cons (pd_var 3 rfl) (ad_cons (pd_var 5 rfl) ad_nil)) ⟨has_92, asks_94, rfl, (/- side 8 -/ by first | trivial | assumption | omega | (exact pre.1 _ ha) | (exact pre.1) | (exact pre.1.1) | (exact pre.2) | (exact pre _ ha) | (refine ⟨?_, ?_⟩ <;> omega) | (refine ⟨?_, ?_, ?_⟩ <;> omega)), rfl⟩)) (ad_cons (pd_var 7 rfl) ad_nil)) ⟨_, rfl, (.lst (/- side 9 -/ by first | (simp; omega) | omega | (rw [List.length_map]; omega)) (nice_all fun _ _ => (nice_t3 (.int _) (.int _) (.int _)))), rfl⟩)))))))) (fun h => nomatch h) (fun _ => ?_)
  refine bd_seq (sd_setLcD 9 (lcN (List.range (many_91).toNat) (fun i : Nat => PyData.int (i : Int)) PyData.int (fun (a100 : Nat) => ((gI has_92 (a100 : Int)) - ((due_97.filter (fun (a101 : (Int × Int × Int)) => (decide (a101.1 = (a100 : Int))))).map (fun (a101 : (Int × Int × Int)) => a101.2.2)).sum)) (blkOk_by (own := [("k", 10)]) (show blkC n_law (defScope s_law) _ _ = true by decide +kernel)) (id_rangeI Y.z_range (pd_var 2 rfl) (/- side 11 -/ by omega) (/- side 12 -/ by omega)) (/- side 15 -/ by first | omega | assumption | (have hi := List.mem_range.mp ha; omega) | (rw [List.length_range]; omega)) (by intro _ h; cases h) (by trivial) (fun a100 ha => ⟨_, _, (fun Z hZ => by obtain ⟨s1, H1, C1, cl1, fp1, rfl⟩ := hZ; exact (gv_name 10 (by decide) sc_law.nd)), (fun Z hZ => by obtain ⟨s1, H1, C1, cl1, fp1, rfl⟩ := hZ; exact (pd_sub (pd_gixD (f := PyData.int) (ns := has_92) (i := (a100 : Int)) (/- side 13 -/ by first | omega | assumption | (have hi := List.mem_range.mp ha; omega) | (rw [List.length_range]; omega)) (pd_var 3 rfl) (pd_var 10 rfl)) (pd_sumD (ns := ((due_97.filter (fun (a101 : (Int × Int × Int)) => (decide (a101.1 = (a100 : Int))))).map (fun (a101 : (Int × Int × Int)) => a101.2.2))) rfl Y.z_sum (pd_n (pn_lc (lcM due_97 (dT3 PyData.int PyData.int PyData.int) PyData.int (fun (a101 : (Int × Int × Int)) => (decide (a101.1 = (a100 : Int)))) (fun (a101 : (Int × Int × Int)) => a101.2.2) (blkOk_in (own := [("row", 8)]) (show blkC n_law _ _ _ = true by decide +kernel)) (id_listD (f := (dT3 PyData.int PyData.int PyData.int)) (ns := due_97) (pd_var 7 rfl)) (/- side 14 -/ by first | omega | assumption | (have hi := List.mem_range.mp ha; omega) | (rw [List.length_range]; omega)) (by intro _ h; cases h) (by trivial) (fun a101 ha => ⟨_, _, (fun Z hZ => by obtain ⟨s1, H1, C1, cl1, fp1, rfl⟩ := hZ; exact (gv_name 8 (by decide) sc_law.nd)), (fun Z hZ => by obtain ⟨s1, H1, C1, cl1, fp1, rfl⟩ := hZ; exact (tsd_one (td_eqI (pd_ixT (i := 0) rfl (pd_var 8 rfl) pd_int) (pd_var 10 rfl)))), (fun Z hZ hw => by obtain ⟨s1, H1, C1, cl1, fp1, rfl⟩ := hZ; exact (pd_ixT (i := 2) rfl (pd_var 8 rfl) pd_int)), (by repeat (first | exact Le.nil | apply Le.eq | apply Le.un)), (by repeat (first | exact Le.nil | apply Le.eq | apply Le.un))⟩)) sc_law.nd))))), (by repeat (first | exact Le.nil | apply Le.eq | apply Le.un)), (by repeat (first | exact Le.nil | apply Le.eq | apply Le.un))⟩)) rfl sc_law.nd) ?_
  refine bd_env (ρ' := [.d ((dL PyData.int) ns_), .o none (.l (pl q95)), .d (PyData.int many_91), .d ((dL PyData.int) has_92), .un, .d ((dL PyData.int) asks_94), .d ((dL PyData.int) rows_96), .d ((dL (dT3 PyData.int PyData.int PyData.int)) due_97), .un, .d ((dL PyData.int) ((List.range (many_91).toNat).map (fun (a100 : Nat) => ((gI has_92 (a100 : Int)) - ((due_97.filter (fun (a101 : (Int × Int × Int)) => (decide (a101.1 = (a100 : Int))))).map (fun (a101 : (Int × Int × Int)) => a101.2.2)).sum)))), .un, .un, .un, .un, .un, .un, .un, .un, .un, .un, .un]) rfl ?_
  obtain ⟨left_102, hleft_102⟩ : ∃ z : (List Int), (((List.range (many_91).toNat).map (fun (a100 : Nat) => ((gI has_92 (a100 : Int)) - ((due_97.filter (fun (a101 : (Int × Int × Int)) => (decide (a101.1 = (a100 : Int))))).map (fun (a101 : (Int × Int × Int)) => a101.2.2)).sum))) : (List Int)) = z := ⟨_, rfl⟩
  refine bd_env (ρ' := [.d ((dL PyData.int) ns_), .o none (.l (pl q95)), .d (PyData.int many_91), .d ((dL PyData.int) has_92), .un, .d ((dL PyData.int) asks_94), .d ((dL PyData.int) rows_96), .d ((dL (dT3 PyData.int PyData.int PyData.int)) due_97), .un, .d ((dL PyData.int) left_102), .un, .un, .un, .un, .un, .un, .un, .un, .un, .un, .un]) (by rw [← hleft_102]) ?_
  have hK : m_kept has_92 asks_94 = left_102 := by rw [← kept_is (show (many_91).toNat = (has_92).length by omega) (by rw [hD]; exact fun r hr => by have := hDr r hr; omega), hD]; exact hleft_102
  have hKl : (left_102).length = (has_92).length := by rw [← hK]; unfold m_kept; exact kp_len _ _
  -- hk103: if not _law_same(kept(has, asks), left)
  refine bd_guard (k := false) (td_cast (k := (!true)) (by rfl) (td_not (td_val (pd_call (c__law_same Y 1) hr .nil (ad_cons (pd_cast (y := ((dL PyData.int) left_102)) (/- side 18 -/ by exact congrArg (dL PyData.int) hK) (pd_n (pn_call (c_kept Y) hr .nil (ad_cons (pd_var 3 rfl) (ad_cons (pd_var 5 rfl) ad_nil)) ⟨has_92, asks_94, rfl, (/- side 16 -/ by exact ⟨⟨hH, hA, hL2⟩, by rw [hD]; exact fun r hr => by have := hDr r hr; omega⟩), rfl⟩))) (ad_cons (pd_var 9 rfl) ad_nil)) ⟨_, rfl, (.lst (/- side 17 -/ by rw [List.length_map, ← hK]; unfold m_kept; rw [kp_len]; omega) (nice_all fun _ _ => (.int _))), rfl⟩)))) (fun h => nomatch h) (fun _ => ?_)
  refine bd_seq (sd_set 11 (pd_call (c__law_least Y) hr .nil (ad_cons (pd_var 3 rfl) (ad_cons (pd_var 5 rfl) ad_nil)) ⟨has_92, asks_94, rfl, (/- side 19 -/ by exact ⟨hL2, hchas.shp, by omega, hA100⟩), rfl⟩) rfl sc_law.nd) ?_
  refine bd_env (ρ' := [.d ((dL PyData.int) ns_), .o none (.l (pl q95)), .d (PyData.int many_91), .d ((dL PyData.int) has_92), .un, .d ((dL PyData.int) asks_94), .d ((dL PyData.int) rows_96), .d ((dL (dT3 PyData.int PyData.int PyData.int)) due_97), .un, .d ((dL PyData.int) left_102), .un, .d ((dO PyData.int) (m_least has_92 asks_94)), .un, .un, .un, .un, .un, .un, .un, .un, .un]) rfl ?_
  obtain ⟨least_104, hleast_104⟩ : ∃ z : (Option Int), ((m_least has_92 asks_94) : (Option Int)) = z := ⟨_, rfl⟩
  refine bd_env (ρ' := [.d ((dL PyData.int) ns_), .o none (.l (pl q95)), .d (PyData.int many_91), .d ((dL PyData.int) has_92), .un, .d ((dL PyData.int) asks_94), .d ((dL PyData.int) rows_96), .d ((dL (dT3 PyData.int PyData.int PyData.int)) due_97), .un, .d ((dL PyData.int) left_102), .un, .d ((dO PyData.int) least_104), .un, .un, .un, .un, .un, .un, .un, .un, .un]) (by rw [← hleast_104]) ?_
  have hLs : m_least has_92 asks_94 = least_104 := hleast_104
  -- hk105: if min(rows) < 0
  refine bd_cut (fun r => (True) ∧ Le [.d ((dL PyData.int) ns_), .o none (.l (pl q95)), .d (PyData.int many_91), .d ((dL PyData.int) has_92), .un, .d ((dL PyData.int) asks_94), .d ((dL PyData.int) rows_96), .d ((dL (dT3 PyData.int PyData.int PyData.int)) due_97), .un, .d ((dL PyData.int) left_102), .un, .d ((dO PyData.int) least_104), .un, .un, .un, .un, .un, .un, .un, .un, .un] r) (sd_if (k := (decide ((lmin rows_96) < 0))) (td_lt (pd_minD (ns := rows_96) rfl Y.z_min (/- side 20 -/ by first | omega | (have h9 := of_decide_eq_true XX; omega) | (simp; done)) (pd_var 6 rfl)) pd_int) (fun hk105 => ?_) (fun hk105 => ?_)) ?_
  · skip
    have hk105f := hk105; try simp only [decide_eq_true_eq, decide_eq_false_iff_not, Bool.and_eq_true, Bool.or_eq_true, Bool.not_eq_true', Bool.not_eq_false', Bool.and_eq_false_iff, Bool.or_eq_false_iff, Bool.not_true, Bool.not_false, List.isEmpty_iff] at hk105f
    have hlt9 := hk105f
    have hF9 : m_fits has_92 asks_94 = false := by rw [fits_min (by omega), hR, decide_eq_true hlt9]; rfl
    have hN9 : least_104 = none := by rw [← hLs]; unfold m_least; rw [hF9]; rfl
    -- hk106: if least is not None or _law_refused(0, has, asks, 0, 0) != 'late'
    refine bd_guard (k := false) (td_cast (k := ((!(least_104).isNone) || (!(decide ((resOf "NotNow") = ("late" : Str)))))) (by rw [hN9]; decide +kernel) (td_w (wd_or (td_cast (notN_dO _ (by intro _; rfl)) (td_notN (pd_var 11 rfl))) (fun hw => (wd_or1 (td_neS (pd_call (c__law_refused Y) hr .nil (ad_cons pd_int (ad_cons (pd_var 3 rfl) (ad_cons (pd_var 5 rfl) (ad_cons pd_int (ad_cons pd_int ad_nil))))) ⟨0, ((dL PyData.int) has_92), ((dL PyData.int) asks_94), (PyData.int 0), (PyData.int 0), "NotNow", rfl, .inl ⟨rfl, rfl, has_92, asks_94, rfl, rfl, ⟨hH, hA, hL2⟩, hF9⟩, rfl⟩) pd_str)))))) (fun h => nomatch h) (fun _ => ?_)
    exact bd_nil ⟨(by trivial), (by repeat (first | exact Le.nil | apply Le.eq | apply Le.un))⟩
  · skip
    have hk105f := hk105; try simp only [decide_eq_true_eq, decide_eq_false_iff_not, Bool.and_eq_true, Bool.or_eq_true, Bool.not_eq_true', Bool.not_eq_false', Bool.and_eq_false_iff, Bool.or_eq_false_iff, Bool.not_true, Bool.not_false, List.isEmpty_iff] at hk105f
    have hlt8 := hk105f
    have hF8 : m_fits has_92 asks_94 = true := by rw [fits_min (by omega), hR, decide_eq_false hlt8]; rfl
    have hS8 : some (m_raised (m_allotted has_92 asks_94)) = least_104 := by rw [← hLs]; unfold m_least; rw [hF8]; rfl
    -- hk107: if not _law_same(least_raised(has, asks), least)
    refine bd_guard (k := false) (td_cast (k := (!true)) (by rfl) (td_not (td_val (pd_call (c__law_same Y 0) hr .nil (ad_cons (pd_cast (y := ((dO PyData.int) least_104)) (/- side 22 -/ by rw [← hS8]; rfl) (pd_call (c_least_raised Y) hr .nil (ad_cons (pd_var 3 rfl) (ad_cons (pd_var 5 rfl) ad_nil)) ⟨has_92, asks_94, rfl, (/- side 21 -/ by exact ⟨⟨⟨hH, hA, hL2⟩, hF8⟩, by rw [hD]; omega, by rw [hD]; exact fun r hr => by have := hDr r hr; omega⟩), rfl⟩)) (ad_cons (pd_var 11 rfl) ad_nil)) ⟨_, rfl, (nice_opt fun _ => (.int _)), rfl⟩)))) (fun h => nomatch h) (fun _ => ?_)
    exact bd_nil ⟨(by trivial), (by repeat (first | exact Le.nil | apply Le.eq | apply Le.un))⟩
  rintro r ⟨hj, hle⟩
  refine bd_le hle ?_
  clear hle
  -- for for sort in range(many):
  refine bd_cut (fun r : En => (True) ∧ r = [.d ((dL PyData.int) ns_), .o none (.l (pl q95)), .d (PyData.int many_91), .d ((dL PyData.int) has_92), .un, .d ((dL PyData.int) asks_94), .d ((dL PyData.int) rows_96), .d ((dL (dT3 PyData.int PyData.int PyData.int)) due_97), .un, .d ((dL PyData.int) left_102), .un, .d ((dO PyData.int) least_104), .un, .un, .un, .un, .un, .un, .un, .un, .un]) (sd_forM (List.range (many_91).toNat) (fun i : Nat => PyData.int (i : Int)) (fun (i_s : Nat) (r : En) => (True) ∧ r = [.d ((dL PyData.int) ns_), .o none (.l (pl q95)), .d (PyData.int many_91), .d ((dL PyData.int) has_92), .un, .d ((dL PyData.int) asks_94), .d ((dL PyData.int) rows_96), .d ((dL (dT3 PyData.int PyData.int PyData.int)) due_97), .un, .d ((dL PyData.int) left_102), .un, .d ((dO PyData.int) least_104), .un, .un, .un, .un, .un, .un, .un, .un, .un]) (passes_of rfl) rfl (id_rangeI Y.z_range (pd_var 2 rfl) (/- side 23 -/ by omega) (/- side 24 -/ by omega)) ⟨_, (by repeat (first | exact Le.nil | apply Le.eq | apply Le.un)), ⟨(by trivial), rfl⟩⟩ (fun _ _ _ => trivial) (fun i_s a108 r ha_a108 hI => ?_) (fun r h => h)) ?_
  · obtain ⟨hI109, rfl⟩ := hI
    obtain ⟨rfl, hi_i_s⟩ := range_at ha_a108
    refine ⟨_, (gd_name 12 sc_law.nd), ?_⟩
    refine bd_env (ρ' := [.d ((dL PyData.int) ns_), .o none (.l (pl q95)), .d (PyData.int many_91), .d ((dL PyData.int) has_92), .un, .d ((dL PyData.int) asks_94), .d ((dL PyData.int) rows_96), .d ((dL (dT3 PyData.int PyData.int PyData.int)) due_97), .un, .d ((dL PyData.int) left_102), .un, .d ((dO PyData.int) least_104), .d (PyData.int (i_s : Int)), .un, .un, .un, .un, .un, .un, .un, .un]) rfl ?_
    have hi7 := hi_i_s
    have hs7 : i_s < (asks_94).length := by omega
    refine bd_seq (sd_set 13 (pd_call (c_most_asked Y) hr .nil (ad_cons (pd_var 3 rfl) (ad_cons (pd_var 5 rfl) (ad_cons (pd_var 12 rfl) ad_nil))) ⟨has_92, asks_94, (i_s : Int), rfl, (/- side 25 -/ by exact ⟨⟨hH, hA, hL2⟩, by omega, by omega⟩), rfl⟩) rfl sc_law.nd) ?_
    refine bd_env (ρ' := [.d ((dL PyData.int) ns_), .o none (.l (pl q95)), .d (PyData.int many_91), .d ((dL PyData.int) has_92), .un, .d ((dL PyData.int) asks_94), .d ((dL PyData.int) rows_96), .d ((dL (dT3 PyData.int PyData.int PyData.int)) due_97), .un, .d ((dL PyData.int) left_102), .un, .d ((dO PyData.int) least_104), .d (PyData.int (i_s : Int)), .d ((dO PyData.int) (m_most has_92 asks_94 (i_s : Int))), .un, .un, .un, .un, .un, .un, .un]) rfl ?_
    obtain ⟨most_110, hmost_110⟩ : ∃ z : (Option Int), ((m_most has_92 asks_94 (i_s : Int)) : (Option Int)) = z := ⟨_, rfl⟩
    refine bd_env (ρ' := [.d ((dL PyData.int) ns_), .o none (.l (pl q95)), .d (PyData.int many_91), .d ((dL PyData.int) has_92), .un, .d ((dL PyData.int) asks_94), .d ((dL PyData.int) rows_96), .d ((dL (dT3 PyData.int PyData.int PyData.int)) due_97), .un, .d ((dL PyData.int) left_102), .un, .d ((dO PyData.int) least_104), .d (PyData.int (i_s : Int)), .d ((dO PyData.int) most_110), .un, .un, .un, .un, .un, .un, .un]) (by rw [← hmost_110]) ?_
    have hM : m_most has_92 asks_94 (i_s : Int) = most_110 := hmost_110
    refine bd_seq (sd_setN 14 (pn_catM (f := PyData.int) (ns := ((cutG asks_94 none (some (i_s : Int))) ++ [0])) (ms := (cutG asks_94 (some ((i_s : Int) + 1)) none)) (pq_d (pd_n (pn_catM (f := PyData.int) (ns := (cutG asks_94 none (some (i_s : Int)))) (ms := [0]) (pq_d (pd_n (pn_sliceM (f := PyData.int) (ns := asks_94) (ol := none) (oh := (some (i_s : Int))) (pq_d (pd_var 5 rfl)) od_none (od_some (pd_var 12 rfl)) srcN))) srcN (pq_d (pd_n (pn_lst (ad_cons pd_int ad_nil)))) srcN (/- side 26 -/ by have h9 := cutG_le asks_94 none (some (i_s : Int)); simp; omega)))) srcN (pq_d (pd_n (pn_sliceM (f := PyData.int) (ns := asks_94) (ol := (some ((i_s : Int) + 1))) (oh := none) (pq_d (pd_var 5 rfl)) (od_some (pd_add (pd_var 12 rfl) pd_int)) od_none srcN))) srcN (/- side 27 -/ by have h9 := cutG_le asks_94 none (some (i_s : Int)); have h10 := cutG_le asks_94 (some ((i_s : Int) + 1)) none; rw [List.length_append]; simp; omega)) rfl sc_law.nd) ?_
    refine bd_env (ρ' := [.d ((dL PyData.int) ns_), .o none (.l (pl q95)), .d (PyData.int many_91), .d ((dL PyData.int) has_92), .un, .d ((dL PyData.int) asks_94), .d ((dL PyData.int) rows_96), .d ((dL (dT3 PyData.int PyData.int PyData.int)) due_97), .un, .d ((dL PyData.int) left_102), .un, .d ((dO PyData.int) least_104), .d (PyData.int (i_s : Int)), .d ((dO PyData.int) most_110), .ol ((((cutG asks_94 none (some (i_s : Int))) ++ [0]) ++ (cutG asks_94 (some ((i_s : Int) + 1)) none)).map PyData.int), .un, .un, .un, .un, .un, .un]) rfl ?_
    obtain ⟨trial_111, htrial_111⟩ : ∃ z : (List Int), ((((cutG asks_94 none (some (i_s : Int))) ++ [0]) ++ (cutG asks_94 (some ((i_s : Int) + 1)) none)) : (List Int)) = z := ⟨_, rfl⟩
    refine bd_env (ρ' := [.d ((dL PyData.int) ns_), .o none (.l (pl q95)), .d (PyData.int many_91), .d ((dL PyData.int) has_92), .un, .d ((dL PyData.int) asks_94), .d ((dL PyData.int) rows_96), .d ((dL (dT3 PyData.int PyData.int PyData.int)) due_97), .un, .d ((dL PyData.int) left_102), .un, .d ((dO PyData.int) least_104), .d (PyData.int (i_s : Int)), .d ((dO PyData.int) most_110), .ol (trial_111.map PyData.int), .un, .un, .un, .un, .un, .un]) (by rw [← htrial_111]) ?_
    have hTr : setI asks_94 (i_s : Int) 0 = trial_111 := by rw [← trial_is hs7]; exact htrial_111
    have hTl : (trial_111).length = (asks_94).length := by rw [← hTr, setI_len]
    -- hk112: if most is None
    refine bd_cut (fun r => (True) ∧ Le [.d ((dL PyData.int) ns_), .o none (.l (pl q95)), .d (PyData.int many_91), .d ((dL PyData.int) has_92), .un, .d ((dL PyData.int) asks_94), .d ((dL PyData.int) rows_96), .d ((dL (dT3 PyData.int PyData.int PyData.int)) due_97), .un, .d ((dL PyData.int) left_102), .un, .d ((dO PyData.int) least_104), .d (PyData.int (i_s : Int)), .un, .un, .un, .un, .un, .un, .un, .un] r) (sd_if (k := (most_110).isNone) (td_cast (isN_dO _ (by intro _; rfl)) (td_isN (pd_var 13 rfl))) (fun hk112 => ?_) (fun hk112 => ?_)) ?_
    · skip
      have hk112f := hk112; try simp only [decide_eq_true_eq, decide_eq_false_iff_not, Bool.and_eq_true, Bool.or_eq_true, Bool.not_eq_true', Bool.not_eq_false', Bool.and_eq_false_iff, Bool.or_eq_false_iff, Bool.not_true, Bool.not_false, List.isEmpty_iff] at hk112f
      have hneg : lmin (m_over has_92 trial_111) < 0 := by rw [← hTr]; exact most_none (hM.trans (Option.isNone_iff_eq_none.mp hk112))
      -- hk113: if min(_law_over(has, trial)) >= 0
      refine bd_guard (k := false) (td_cast (k := (decide (0 ≤ (lmin (m__law_over has_92 trial_111))))) (by exact decide_eq_false (Int.not_le.mpr hneg)) (td_ge (pd_lend (xs := trial_111.map PyData.int) (ρd := [.d ((dL PyData.int) ns_), .un, .d (PyData.int many_91), .d ((dL PyData.int) has_92), .un, .d ((dL PyData.int) asks_94), .d ((dL PyData.int) rows_96), .d ((dL (dT3 PyData.int PyData.int PyData.int)) due_97), .un, .d ((dL PyData.int) left_102), .un, .d ((dO PyData.int) least_104), .d (PyData.int (i_s : Int)), .d ((dO PyData.int) most_110), .d ((dL PyData.int) trial_111), .un, .un, .un, .un, .un, .un]) 14 rfl (pd_minD (ns := (m__law_over has_92 trial_111)) rfl Y.z_min (/- side 29 -/ by rw [show (m__law_over _ _).length = _ from over_len _ _]; omega) (pd_call (c__law_over Y) hr .nil (ad_cons (pd_var 3 rfl) (ad_cons (pd_var 14 rfl) ad_nil)) ⟨has_92, trial_111, rfl, (/- side 28 -/ by exact ⟨by (try simp only [setI_len]); omega, by omega⟩), rfl⟩))) pd_int)) (fun h => nomatch h) (fun _ => ?_)
      exact bd_nil ⟨(by trivial), (by repeat (first | exact Le.nil | apply Le.eq | apply Le.un))⟩
    · skip
      have hk112f := hk112; try simp only [decide_eq_true_eq, decide_eq_false_iff_not, Bool.and_eq_true, Bool.or_eq_true, Bool.not_eq_true', Bool.not_eq_false', Bool.and_eq_false_iff, Bool.or_eq_false_iff, Bool.not_true, Bool.not_false, List.isEmpty_iff] at hk112f
      have hg7 := hk112
      obtain ⟨m_, hm_⟩ := Option.isSome_iff_exists.mp (show (most_110).isSome = true by simpa using hg7)
      have hMS := most_some hL2 hs7 (hM.trans hm_)
      refine bd_env (ρ' := [.d ((dL PyData.int) ns_), .o none (.l (pl q95)), .d (PyData.int many_91), .d ((dL PyData.int) has_92), .un, .d ((dL PyData.int) asks_94), .d ((dL PyData.int) rows_96), .d ((dL (dT3 PyData.int PyData.int PyData.int)) due_97), .un, .d ((dL PyData.int) left_102), .un, .d ((dO PyData.int) least_104), .d (PyData.int (i_s : Int)), .d (PyData.int m_), .ol (trial_111.map PyData.int), .un, .un, .un, .un, .un, .un]) (by rw [hm_]; rfl) ?_
      refine bd_seq (sd_setixM (f := PyData.int) (ns := trial_111) (ix := (i_s : Int)) (v := m_) 14 (pd_var 13 rfl) rfl (pd_var 12 rfl) rfl (/- side 30 -/ by omega) rfl) ?_
      refine bd_env (ρ' := [.d ((dL PyData.int) ns_), .o none (.l (pl q95)), .d (PyData.int many_91), .d ((dL PyData.int) has_92), .un, .d ((dL PyData.int) asks_94), .d ((dL PyData.int) rows_96), .d ((dL (dT3 PyData.int PyData.int PyData.int)) due_97), .un, .d ((dL PyData.int) left_102), .un, .d ((dO PyData.int) least_104), .d (PyData.int (i_s : Int)), .d (PyData.int m_), .ol ((setI trial_111 (i_s : Int) m_).map PyData.int), .un, .un, .un, .un, .un, .un]) rfl ?_
      -- hk114: if isinstance(most, bool) or most < 0 or min(_law_over(has, trial)) < 0
      refine bd_guard (k := false) (td_cast (k := (false || ((decide (m_ < 0)) || (decide ((lmin (m__law_over has_92 (setI trial_111 (i_s : Int) m_))) < 0))))) (by have h9 := hMS.2.1; rw [← setI_twice (xs := asks_94) (i_s : Int) 0 m_ (by omega), hTr] at h9; have h8 := hMS.1; have h9 : 0 ≤ lmin (m__law_over has_92 (setI trial_111 (i_s : Int) m_)) := h9; simp [Int.not_lt.mpr h8, Int.not_lt.mpr h9]) (td_w (wd_or (td_val (pd_isi (x := (PyData.int m_)) (T := "bool") (k := false) rfl (show kitB "int" "bool" = some false by decide +kernel) Y.z_isinstance (pe_cls Y.z_bool rfl) (pd_var 13 rfl))) (fun hw => (wd_or (td_lt (pd_var 13 rfl) pd_int) (fun hw2 => (wd_or1 (td_lt (pd_lend (xs := (setI trial_111 (i_s : Int) m_).map PyData.int) (ρd := [.d ((dL PyData.int) ns_), .un, .d (PyData.int many_91), .d ((dL PyData.int) has_92), .un, .d ((dL PyData.int) asks_94), .d ((dL PyData.int) rows_96), .d ((dL (dT3 PyData.int PyData.int PyData.int)) due_97), .un, .d ((dL PyData.int) left_102), .un, .d ((dO PyData.int) least_104), .d (PyData.int (i_s : Int)), .d (PyData.int m_), .d ((dL PyData.int) (setI trial_111 (i_s : Int) m_)), .un, .un, .un, .un, .un, .un]) 14 rfl (pd_minD (ns := (m__law_over has_92 (setI trial_111 (i_s : Int) m_))) rfl Y.z_min (/- side 32 -/ by rw [show (m__law_over _ _).length = _ from over_len _ _]; omega) (pd_call (c__law_over Y) hr .nil (ad_cons (pd_var 3 rfl) (ad_cons (pd_var 14 rfl) ad_nil)) ⟨has_92, (setI trial_111 (i_s : Int) m_), rfl, (/- side 31 -/ by exact ⟨by (try simp only [setI_len]); omega, by omega⟩), rfl⟩))) pd_int)))))))) (fun h => nomatch h) (fun _ => ?_)
      refine bd_seq (sd_setixM (f := PyData.int) (ns := (setI trial_111 (i_s : Int) m_)) (ix := (i_s : Int)) (v := (m_ + 1)) 14 (pd_add (pd_var 13 rfl) pd_int) rfl (pd_var 12 rfl) rfl (/- side 33 -/ by rw [setI_len]; omega) rfl) ?_
      refine bd_env (ρ' := [.d ((dL PyData.int) ns_), .o none (.l (pl q95)), .d (PyData.int many_91), .d ((dL PyData.int) has_92), .un, .d ((dL PyData.int) asks_94), .d ((dL PyData.int) rows_96), .d ((dL (dT3 PyData.int PyData.int PyData.int)) due_97), .un, .d ((dL PyData.int) left_102), .un, .d ((dO PyData.int) least_104), .d (PyData.int (i_s : Int)), .d (PyData.int m_), .ol ((setI (setI trial_111 (i_s : Int) m_) (i_s : Int) (m_ + 1)).map PyData.int), .un, .un, .un, .un, .un, .un]) rfl ?_
      have hneg : lmin (m_over has_92 (setI (setI trial_111 (i_s : Int) m_) (i_s : Int) (m_ + 1))) < 0 := by have h9 := hMS.2.2; rw [← setI_twice (xs := asks_94) (i_s : Int) 0 (m_ + 1) (by omega), hTr] at h9; rw [setI_twice _ _ _ (by omega)]; exact h9
      -- hk115: if min(_law_over(has, trial)) >= 0
      refine bd_guard (k := false) (td_cast (k := (decide (0 ≤ (lmin (m__law_over has_92 (setI (setI trial_111 (i_s : Int) m_) (i_s : Int) (m_ + 1))))))) (by exact decide_eq_false (Int.not_le.mpr hneg)) (td_ge (pd_lend (xs := (setI (setI trial_111 (i_s : Int) m_) (i_s : Int) (m_ + 1)).map PyData.int) (ρd := [.d ((dL PyData.int) ns_), .un, .d (PyData.int many_91), .d ((dL PyData.int) has_92), .un, .d ((dL PyData.int) asks_94), .d ((dL PyData.int) rows_96), .d ((dL (dT3 PyData.int PyData.int PyData.int)) due_97), .un, .d ((dL PyData.int) left_102), .un, .d ((dO PyData.int) least_104), .d (PyData.int (i_s : Int)), .d (PyData.int m_), .d ((dL PyData.int) (setI (setI trial_111 (i_s : Int) m_) (i_s : Int) (m_ + 1))), .un, .un, .un, .un, .un, .un]) 14 rfl (pd_minD (ns := (m__law_over has_92 (setI (setI trial_111 (i_s : Int) m_) (i_s : Int) (m_ + 1)))) rfl Y.z_min (/- side 35 -/ by rw [show (m__law_over _ _).length = _ from over_len _ _]; omega) (pd_call (c__law_over Y) hr .nil (ad_cons (pd_var 3 rfl) (ad_cons (pd_var 14 rfl) ad_nil)) ⟨has_92, (setI (setI trial_111 (i_s : Int) m_) (i_s : Int) (m_ + 1)), rfl, (/- side 34 -/ by exact ⟨by (try simp only [setI_len]); omega, by omega⟩), rfl⟩))) pd_int)) (fun h => nomatch h) (fun _ => ?_)
      exact bd_nil ⟨(by trivial), (by repeat (first | exact Le.nil | apply Le.eq | apply Le.un))⟩
    rintro r ⟨hj, hle⟩
    refine bd_le hle ?_
    clear hle
    exact bd_nil ⟨_, (by repeat (first | exact Le.nil | apply Le.eq | apply Le.un)), ⟨(by trivial), rfl⟩⟩
  rintro r ⟨hI109, rfl⟩
  obtain ⟨v116, q117, mv116, hv116⟩ := pickS q95 ([(PyData.int (-1)), (PyData.int many_91), (PyData.bool true)] : List PyData) (fun d : PyData => d) (by first | decide | (simp; done) | omega | (simp; omega)) (by first | decide | (simp; done) | omega | (simp; omega))
  refine bd_guardP (R := fun k r => k = false ∧ ∃ q : Pool, r = [.d ((dL PyData.int) ns_), .o none (.l (pl q)), .d (PyData.int many_91), .d ((dL PyData.int) has_92), .un, .d ((dL PyData.int) asks_94), .d ((dL PyData.int) rows_96), .d ((dL (dT3 PyData.int PyData.int PyData.int)) due_97), .un, .d ((dL PyData.int) left_102), .un, .d ((dO PyData.int) least_104), .un, .un, .un, .un, .un, .un, .un, .un, .un]) (tp_w (wp_or_f (td_cast (k := (!(decide ((resOf "InvalidPaper") = ("paper" : Str))))) (by decide +kernel) (td_neS (pd_call (c__law_refused Y) hr .nil (ad_cons pd_int (ad_cons (pd_var 3 rfl) (ad_cons (pd_var 5 rfl) (ad_cons (pd_callO (y := v116) (xs' := pl q117) 1 (c__law_pick Y) hr .nil rfl (ad_cons (pd_n (pn_lst (ad_cons (pd_neg pd_int) (ad_cons (pd_var 2 rfl) (ad_cons pd_bl ad_nil))))) ad_nil) rfl hv116) (ad_cons pd_int ad_nil))))) ⟨3, ((dL PyData.int) has_92), ((dL PyData.int) asks_94), v116, (PyData.int 0), "InvalidPaper", rfl, .inr (.inr (.inr ⟨rfl, rfl, has_92, asks_94, rfl, rfl, ⟨hH, hA, hL2⟩, (bad79p (by omega) (by assumption)).1, (bad79p (by omega) (by assumption)).2⟩)), rfl⟩) pd_str)) (wp_or1 (tp_imp (tp_not (tp_val (R := fun k r => k = true ∧ ∃ q : Pool, r = [.d ((dL PyData.int) ns_), .o none (.l (pl q)), .d (PyData.int many_91), .d ((dL PyData.int) has_92), .un, .d ((dL PyData.int) asks_94), .d ((dL PyData.int) rows_96), .d ((dL (dT3 PyData.int PyData.int PyData.int)) due_97), .un, .d ((dL PyData.int) left_102), .un, .d ((dO PyData.int) least_104), .un, .un, .un, .un, .un, .un, .un, .un, .un]) (pp_call (q := q117) 1 (c__law_mixed_right Y) hr .nil rfl (ad_cons (pd_var 3 rfl) ad_nil) rfl ⟨has_92, rfl, (/- side 36 -/ by exact ⟨⟨hH, by omega⟩, fun x hx => (hHm.2 x hx).2⟩)⟩) (fun y r h => ?_))) (fun k r h => ?_))))) (fun k r h => h.1) (fun r h => ?_)
  · obtain ⟨h1, q9, rfl⟩ := h
    obtain ⟨z9, rfl, h2⟩ := h1 _ rfl
    exact ⟨_, rfl, h2, q9, rfl⟩
  · exact ⟨by have h1 := h.1; revert h1; cases k <;> simp, h.2⟩
  obtain ⟨_, q118, rfl⟩ := h
  -- for for k in range(4):
  refine bd_cut (fun r : En => ∃ (pool_119 : Pool), (True) ∧ r = [.d ((dL PyData.int) ns_), .o none (.l (pl pool_119)), .d (PyData.int many_91), .d ((dL PyData.int) has_92), .un, .d ((dL PyData.int) asks_94), .d ((dL PyData.int) rows_96), .d ((dL (dT3 PyData.int PyData.int PyData.int)) due_97), .un, .d ((dL PyData.int) left_102), .un, .d ((dO PyData.int) least_104), .un, .un, .un, .un, .un, .un, .un, .un, .un]) (sd_forM (List.range 4) (fun i : Nat => PyData.int (i : Int)) (fun (i120 : Nat) (r : En) => ∃ (pool_119 : Pool), (True) ∧ r = [.d ((dL PyData.int) ns_), .o none (.l (pl pool_119)), .d (PyData.int many_91), .d ((dL PyData.int) has_92), .un, .d ((dL PyData.int) asks_94), .d ((dL PyData.int) rows_96), .d ((dL (dT3 PyData.int PyData.int PyData.int)) due_97), .un, .d ((dL PyData.int) left_102), .un, .d ((dO PyData.int) least_104), .un, .un, .un, .un, .un, .un, .un, .un, .un]) (passes_of rfl) rfl (id_range0 (n := 4) Y.z_range pd_int (/- side 37 -/ by decide)) ⟨_, (by repeat (first | exact Le.nil | apply Le.eq | apply Le.un)), ⟨q118, (by first | trivial | omega | assumption | simp_all), rfl⟩⟩ (fun _ _ _ => trivial) (fun i120 a121 r ha_a121 hI => ?_) (fun r h => h)) ?_
  · obtain ⟨pool_119, hI122, rfl⟩ := hI
    obtain ⟨rfl, hi_i120⟩ := range_at ha_a121
    refine ⟨_, (gd_name 10 sc_law.nd), ?_⟩
    refine bd_env (ρ' := [.d ((dL PyData.int) ns_), .o none (.l (pl pool_119)), .d (PyData.int many_91), .d ((dL PyData.int) has_92), .un, .d ((dL PyData.int) asks_94), .d ((dL PyData.int) rows_96), .d ((dL (dT3 PyData.int PyData.int PyData.int)) due_97), .un, .d ((dL PyData.int) left_102), .d (PyData.int (i120 : Int)), .d ((dO PyData.int) least_104), .un, .un, .un, .un, .un, .un, .un, .un, .un]) rfl ?_
    -- one = _law_amounts(pool, many)
    refine bd_cut (fun r => ∃ (z__125 : (List Int)) (q124 : Pool), (AmL many_91 z__125) ∧ r = [.d ((dL PyData.int) ns_), .o none (.l (pl q124)), .d (PyData.int many_91), .d ((dL PyData.int) has_92), .un, .d ((dL PyData.int) asks_94), .d ((dL PyData.int) rows_96), .d ((dL (dT3 PyData.int PyData.int PyData.int)) due_97), .un, .d ((dL PyData.int) left_102), .d (PyData.int (i120 : Int)), .d ((dO PyData.int) least_104), .un, .un, .un, .d ((dL PyData.int) z__125), .un, .un, .un, .un, .un]) (sd_setP 15 (pp_call (q := pool_119) 1 (c__law_amounts Y) hr .nil rfl (ad_cons (pd_var 2 rfl) ad_nil) rfl ⟨many_91, rfl, (/- side 38 -/ by omega)⟩) (fun y r h => by obtain ⟨hh, q, rfl⟩ := h; obtain ⟨z__125, rfl, hy⟩ := hh _ rfl; exact ⟨z__125, q, hy, rfl⟩) sc_law.nd) ?_
    rintro r ⟨z__125, q124, hy123, rfl⟩
    have hOm : AmL many_91 z__125 := hy123
    have hO : Am z__125 := hOm.am (by omega)
    have hO1 := hOm.1
    refine bd_seq (sd_setN 16 (pn_list Y.z_list (pq_d (pd_var 15 rfl)) srcN) rfl sc_law.nd) ?_
    refine bd_env (ρ' := [.d ((dL PyData.int) ns_), .o none (.l (pl q124)), .d (PyData.int many_91), .d ((dL PyData.int) has_92), .un, .d ((dL PyData.int) asks_94), .d ((dL PyData.int) rows_96), .d ((dL (dT3 PyData.int PyData.int PyData.int)) due_97), .un, .d ((dL PyData.int) left_102), .d (PyData.int (i120 : Int)), .d ((dO PyData.int) least_104), .un, .un, .un, .d ((dL PyData.int) z__125), .ol (z__125.map PyData.int), .un, .un, .un, .un]) rfl ?_
    obtain ⟨v126, q127, hv126, bv126⟩ := drawS q124 (n := 5) (by first | decide | omega) (by first | decide | omega)
    -- for for j in range(_law_draw(pool, 5)):
    refine bd_cut (fun r : En => ∃ (other_128 : (List Int)) (pool_129 : Pool), (Oth many_91 (List.range (v126).toNat).length other_128) ∧ r = [.d ((dL PyData.int) ns_), .o none (.l (pl pool_129)), .d (PyData.int many_91), .d ((dL PyData.int) has_92), .un, .d ((dL PyData.int) asks_94), .d ((dL PyData.int) rows_96), .d ((dL (dT3 PyData.int PyData.int PyData.int)) due_97), .un, .d ((dL PyData.int) left_102), .d (PyData.int (i120 : Int)), .d ((dO PyData.int) least_104), .un, .un, .un, .d ((dL PyData.int) z__125), .ol (other_128.map PyData.int), .un, .un, .un, .un]) (sd_forM (List.range (v126).toNat) (fun i : Nat => PyData.int (i : Int)) (fun (i_j : Nat) (r : En) => ∃ (other_128 : (List Int)) (pool_129 : Pool), (Oth many_91 i_j other_128) ∧ r = [.d ((dL PyData.int) ns_), .o none (.l (pl pool_129)), .d (PyData.int many_91), .d ((dL PyData.int) has_92), .un, .d ((dL PyData.int) asks_94), .d ((dL PyData.int) rows_96), .d ((dL (dT3 PyData.int PyData.int PyData.int)) due_97), .un, .d ((dL PyData.int) left_102), .d (PyData.int (i120 : Int)), .d ((dO PyData.int) least_104), .un, .un, .un, .d ((dL PyData.int) z__125), .ol (other_128.map PyData.int), .un, .un, .un, .un]) (passes_of rfl) rfl (id_rangeI Y.z_range (pd_callO (y := PyData.int v126) (xs' := pl q127) 1 (c__law_draw Y) hr .nil rfl (ad_cons pd_int ad_nil) rfl hv126) (/- side 39 -/ by omega) (/- side 40 -/ by omega)) ⟨_, (by repeat (first | exact Le.nil | apply Le.eq | apply Le.un)), ⟨z__125, q127, (by exact oth_zero hOm), rfl⟩⟩ (fun _ _ _ => trivial) (fun i_j a130 r ha_a130 hI => ?_) (fun r h => h)) ?_
    · obtain ⟨other_128, pool_129, hI131, rfl⟩ := hI
      obtain ⟨rfl, hi_i_j⟩ := range_at ha_a130
      refine ⟨_, (gd_name 17 sc_law.nd), ?_⟩
      refine bd_env (ρ' := [.d ((dL PyData.int) ns_), .o none (.l (pl pool_129)), .d (PyData.int many_91), .d ((dL PyData.int) has_92), .un, .d ((dL PyData.int) asks_94), .d ((dL PyData.int) rows_96), .d ((dL (dT3 PyData.int PyData.int PyData.int)) due_97), .un, .d ((dL PyData.int) left_102), .d (PyData.int (i120 : Int)), .d ((dO PyData.int) least_104), .un, .un, .un, .d ((dL PyData.int) z__125), .ol (other_128.map PyData.int), .d (PyData.int (i_j : Int)), .un, .un, .un]) rfl ?_
      have hJ := hI131
      have hi7 := hi_i_j
      have hJ1 := hJ.1
      obtain ⟨v132, q133, hv132, bv132⟩ := drawS pool_129 (n := many_91) (by first | decide | omega) (by first | decide | omega)
      refine bd_seq (sd_set 18 (pd_callO (y := PyData.int v132) (xs' := pl q133) 1 (c__law_draw Y) hr .nil rfl (ad_cons (pd_var 2 rfl) ad_nil) rfl hv132) rfl sc_law.nd) ?_
      refine bd_env (ρ' := [.d ((dL PyData.int) ns_), .o none (.l (pl q133)), .d (PyData.int many_91), .d ((dL PyData.int) has_92), .un, .d ((dL PyData.int) asks_94), .d ((dL PyData.int) rows_96), .d ((dL (dT3 PyData.int PyData.int PyData.int)) due_97), .un, .d ((dL PyData.int) left_102), .d (PyData.int (i120 : Int)), .d ((dO PyData.int) least_104), .un, .un, .un, .d ((dL PyData.int) z__125), .ol (other_128.map PyData.int), .d (PyData.int (i_j : Int)), .d (PyData.int v132), .un, .un]) rfl ?_
      -- hk134: if other[at] > 0
      refine bd_cut (fun r => ∃ (other_135 : (List Int)) (pool_136 : Pool), (Oth many_91 (i_j + 1) other_135) ∧ Le [.d ((dL PyData.int) ns_), .o none (.l (pl pool_136)), .d (PyData.int many_91), .d ((dL PyData.int) has_92), .un, .d ((dL PyData.int) asks_94), .d ((dL PyData.int) rows_96), .d ((dL (dT3 PyData.int PyData.int PyData.int)) due_97), .un, .d ((dL PyData.int) left_102), .d (PyData.int (i120 : Int)), .d ((dO PyData.int) least_104), .un, .un, .un, .d ((dL PyData.int) z__125), .ol (other_135.map PyData.int), .d (PyData.int (i_j : Int)), .d (PyData.int v132), .un, .un] r) (sd_if (k := (decide (0 < (gI other_128 v132)))) (td_gt (pd_gixO (f := PyData.int) (ns := other_128) (i := v132) 16 rfl (pd_var 18 rfl) rfl (/- side 41 -/ by omega)) pd_int) (fun hk134 => ?_) (fun hk134 => ?_)) ?_
      · skip
        have hk134f := hk134; try simp only [decide_eq_true_eq, decide_eq_false_iff_not, Bool.and_eq_true, Bool.or_eq_true, Bool.not_eq_true', Bool.not_eq_false', Bool.and_eq_false_iff, Bool.or_eq_false_iff, Bool.not_true, Bool.not_false, List.isEmpty_iff] at hk134f
        have hk7 := hk134f
        obtain ⟨v137, q138, hv137, bv137⟩ := drawS q133 (n := many_91) (by first | decide | omega) (by first | decide | omega)
        obtain ⟨v139, q140, mv139, hv139⟩ := pickS q138 ([v132, (min (many_91 - 1) (v132 + 1)), v137] : List Int) PyData.int (by first | decide | (simp; done) | omega | (simp; omega)) (by first | decide | (simp; done) | omega | (simp; omega))
        refine bd_seq (sd_set 19 (pd_callO (y := (PyData.int v139)) (xs' := pl q140) 1 (c__law_pick Y) hr .nil rfl (ad_cons (pd_n (pn_lst (ad_cons (pd_var 18 rfl) (ad_cons (pd_min2 rfl Y.z_min (pd_sub (pd_var 2 rfl) pd_int) (pd_add (pd_var 18 rfl) pd_int)) (ad_cons (pd_callO (y := PyData.int v137) (xs' := pl q138) 1 (c__law_draw Y) hr .nil rfl (ad_cons (pd_var 2 rfl) ad_nil) rfl hv137) ad_nil))))) ad_nil) rfl hv139) rfl sc_law.nd) ?_
        refine bd_env (ρ' := [.d ((dL PyData.int) ns_), .o none (.l (pl q140)), .d (PyData.int many_91), .d ((dL PyData.int) has_92), .un, .d ((dL PyData.int) asks_94), .d ((dL PyData.int) rows_96), .d ((dL (dT3 PyData.int PyData.int PyData.int)) due_97), .un, .d ((dL PyData.int) left_102), .d (PyData.int (i120 : Int)), .d ((dO PyData.int) least_104), .un, .un, .un, .d ((dL PyData.int) z__125), .ol (other_128.map PyData.int), .d (PyData.int (i_j : Int)), .d (PyData.int v132), .d (PyData.int v139), .un]) rfl ?_
        have hto := to79 (by assumption) (by omega) (by omega)
        refine bd_seq (sd_setixM (f := PyData.int) (ns := other_128) (ix := v132) (v := ((gI other_128 v132) - 1)) 16 (pd_sub (pd_gixO (f := PyData.int) (ns := other_128) (i := v132) 16 rfl (pd_var 18 rfl) rfl (/- side 42 -/ by omega)) pd_int) rfl (pd_var 18 rfl) rfl (/- side 43 -/ by omega) rfl) ?_
        refine bd_env (ρ' := [.d ((dL PyData.int) ns_), .o none (.l (pl q140)), .d (PyData.int many_91), .d ((dL PyData.int) has_92), .un, .d ((dL PyData.int) asks_94), .d ((dL PyData.int) rows_96), .d ((dL (dT3 PyData.int PyData.int PyData.int)) due_97), .un, .d ((dL PyData.int) left_102), .d (PyData.int (i120 : Int)), .d ((dO PyData.int) least_104), .un, .un, .un, .d ((dL PyData.int) z__125), .ol ((setI other_128 v132 ((gI other_128 v132) - 1)).map PyData.int), .d (PyData.int (i_j : Int)), .d (PyData.int v132), .d (PyData.int v139), .un]) rfl ?_
        refine bd_seq (sd_setixM (f := PyData.int) (ns := (setI other_128 v132 ((gI other_128 v132) - 1))) (ix := v139) (v := ((gI (setI other_128 v132 ((gI other_128 v132) - 1)) v139) + 1)) 16 (pd_add (pd_gixO (f := PyData.int) (ns := (setI other_128 v132 ((gI other_128 v132) - 1))) (i := v139) 16 rfl (pd_var 19 rfl) rfl (/- side 44 -/ by rw [setI_len]; omega)) pd_int) rfl (pd_var 19 rfl) rfl (/- side 45 -/ by rw [setI_len]; omega) rfl) ?_
        refine bd_env (ρ' := [.d ((dL PyData.int) ns_), .o none (.l (pl q140)), .d (PyData.int many_91), .d ((dL PyData.int) has_92), .un, .d ((dL PyData.int) asks_94), .d ((dL PyData.int) rows_96), .d ((dL (dT3 PyData.int PyData.int PyData.int)) due_97), .un, .d ((dL PyData.int) left_102), .d (PyData.int (i120 : Int)), .d ((dO PyData.int) least_104), .un, .un, .un, .d ((dL PyData.int) z__125), .ol ((setI (setI other_128 v132 ((gI other_128 v132) - 1)) v139 ((gI (setI other_128 v132 ((gI other_128 v132) - 1)) v139) + 1)).map PyData.int), .d (PyData.int (i_j : Int)), .d (PyData.int v132), .d (PyData.int v139), .un]) rfl ?_
        have hC7 := oth_step hJ ⟨by omega, by omega⟩ hto hk7
        exact bd_nil ⟨(setI (setI other_128 v132 ((gI other_128 v132) - 1)) v139 ((gI (setI other_128 v132 ((gI other_128 v132) - 1)) v139) + 1)), q140, (by exact hC7), (by repeat (first | exact Le.nil | apply Le.eq | apply Le.un))⟩
      · skip
        have hk134f := hk134; try simp only [decide_eq_true_eq, decide_eq_false_iff_not, Bool.and_eq_true, Bool.or_eq_true, Bool.not_eq_true', Bool.not_eq_false', Bool.and_eq_false_iff, Bool.or_eq_false_iff, Bool.not_true, Bool.not_false, List.isEmpty_iff] at hk134f
        exact bd_nil ⟨other_128, q133, (by exact oth_skip hJ), (by repeat (first | exact Le.nil | apply Le.eq | apply Le.un))⟩
      rintro r ⟨other_135, pool_136, hj, hle⟩
      refine bd_le hle ?_
      clear hle
      have hJ7 := hj
      exact bd_nil ⟨_, (by repeat (first | exact Le.nil | apply Le.eq | apply Le.un)), ⟨other_135, pool_136, (by exact hJ7), rfl⟩⟩
    rintro r ⟨other_128, pool_129, hI131, rfl⟩
    have hE := hI131
    rw [List.length_range] at hE
    have hOt : Am other_128 := hE.am (by omega) (by omega)
    have hOl : (z__125).length = (other_128).length := by have h9 := hE.1; omega
    refine bd_seq (sd_set 20 (pd_call (c__law_lowered Y) hr .nil (ad_cons (pd_var 15 rfl) (ad_cons (pd_thaw 16 rfl) ad_nil)) ⟨z__125, other_128, rfl, (/- side 46 -/ by exact ⟨hOl, by omega, by omega⟩), rfl⟩) rfl sc_law.nd) ?_
    refine bd_env (ρ' := [.d ((dL PyData.int) ns_), .o none (.l (pl pool_129)), .d (PyData.int many_91), .d ((dL PyData.int) has_92), .un, .d ((dL PyData.int) asks_94), .d ((dL PyData.int) rows_96), .d ((dL (dT3 PyData.int PyData.int PyData.int)) due_97), .un, .d ((dL PyData.int) left_102), .d (PyData.int (i120 : Int)), .d ((dO PyData.int) least_104), .un, .un, .un, .d ((dL PyData.int) z__125), .d ((dL PyData.int) other_128), .un, .un, .un, .d ((dO (dL (dT2 PyData.int PyData.int))) (m__law_lowered z__125 other_128))]) rfl ?_
    obtain ⟨told_141, htold_141⟩ : ∃ z : (Option (List (Int × Int))), ((m__law_lowered z__125 other_128) : (Option (List (Int × Int)))) = z := ⟨_, rfl⟩
    refine bd_env (ρ' := [.d ((dL PyData.int) ns_), .o none (.l (pl pool_129)), .d (PyData.int many_91), .d ((dL PyData.int) has_92), .un, .d ((dL PyData.int) asks_94), .d ((dL PyData.int) rows_96), .d ((dL (dT3 PyData.int PyData.int PyData.int)) due_97), .un, .d ((dL PyData.int) left_102), .d (PyData.int (i120 : Int)), .d ((dO PyData.int) least_104), .un, .un, .un, .d ((dL PyData.int) z__125), .d ((dL PyData.int) other_128), .un, .un, .un, .d ((dO (dL (dT2 PyData.int PyData.int))) told_141)]) (by rw [← htold_141]) ?_
    have hT : m__law_lowered z__125 other_128 = told_141 := htold_141
    -- hk142: if not _law_same(is_better(one, other), told is not None)
    refine bd_guard (k := false) (td_cast (k := (!true)) (by rfl) (td_not (td_val (pd_call (c__law_same Y 0) hr .nil (ad_cons (pd_cast (y := (PyData.bool (!(told_141).isNone))) (/- side 48 -/ by exact congrArg PyData.bool ((low_some hT).trans (by cases told_141 <;> rfl))) (pd_call (c_is_better Y) hr .nil (ad_cons (pd_var 15 rfl) (ad_cons (pd_var 16 rfl) ad_nil)) ⟨z__125, other_128, rfl, (/- side 47 -/ by exact ⟨hO, hOt, hOl⟩), rfl⟩)) (ad_cons (pd_cast (congrArg PyData.bool (notN_dO _ (by intro _; rfl))) (pd_notN (pd_var 20 rfl))) ad_nil)) ⟨_, rfl, (.bl _), rfl⟩)))) (fun h => nomatch h) (fun _ => ?_)
    -- hk143: if told is not None and (not _law_same(steps(one, other), told))
    refine bd_guard (k := false) (td_cast (k := ((!(told_141).isNone) && (!true))) (by simp) (td_w (wd_and (td_cast (notN_dO _ (by intro _; rfl)) (td_notN (pd_var 20 rfl))) (fun hw => (wd_and1 (td_not (td_val (pd_call (c__law_same Y 2) hr .nil (ad_cons (pd_cast (y := ((dO (dL (dT2 PyData.int PyData.int))) told_141)) (/- side 51 -/ by rw [← low_get hT (by revert hw; cases told_141 <;> simp)]; rfl) (pd_call (c_steps Y) hr .nil (ad_cons (pd_var 15 rfl) (ad_cons (pd_var 16 rfl) ad_nil)) ⟨z__125, other_128, rfl, (/- side 49 -/ by exact ⟨⟨⟨hO, hOt, hOl⟩, by omega⟩, by rw [low_some hT]; revert hw; cases told_141 <;> simp⟩), rfl⟩)) (ad_cons (pd_var 20 rfl) ad_nil)) ⟨_, rfl, (nice_opt2 fun z_ hz_ => (.lst (/- side 50 -/ by have h8 := low_get hT (by rw [hz_]; rfl); rw [hz_] at h8; cases h8; have h9 := stl_len z__125 other_128 ((z__125).length - 1) (by omega); rw [List.length_map]; show (stl _ _ _).length < _; omega) (nice_all fun _ _ => (nice_t2 (.int _) (.int _))))), rfl⟩)))))))) (fun h => nomatch h) (fun _ => ?_)
    -- hk144: if told is None and _law_refused(2, one, other, 0, 0) != 'paper'
    refine bd_guard (k := false) (td_cast (k := ((told_141).isNone && (!(decide ((resOf "InvalidPaper") = ("paper" : Str)))))) (by rw [show (!decide (resOf "InvalidPaper" = ("paper" : Str))) = false by decide +kernel, Bool.and_false]) (td_w (wd_and (td_cast (isN_dO _ (by intro _; rfl)) (td_isN (pd_var 20 rfl))) (fun hw => (wd_and1 (td_neS (pd_call (c__law_refused Y) hr .nil (ad_cons pd_int (ad_cons (pd_var 15 rfl) (ad_cons (pd_var 16 rfl) (ad_cons pd_int (ad_cons pd_int ad_nil))))) ⟨2, ((dL PyData.int) z__125), ((dL PyData.int) other_128), (PyData.int 0), (PyData.int 0), "InvalidPaper", rfl, .inr (.inr (.inl ⟨rfl, rfl, z__125, other_128, rfl, rfl, ⟨hO, hOt, hOl⟩, low_none hT hw⟩)), rfl⟩) pd_str)))))) (fun h => nomatch h) (fun _ => ?_)
    exact bd_nil ⟨_, (by repeat (first | exact Le.nil | apply Le.eq | apply Le.un)), ⟨pool_129, (by first | trivial | omega | assumption | simp_all), rfl⟩⟩
  rintro r ⟨pool_119, hI122, rfl⟩
  refine bd_one (sd_ret (x := (PyData.bool true)) pd_bl ?_)
  show (PyData.bool true) = PyData.bool true
  refine congrArg PyData.bool ?_
  first | rfl | simp_all
end
end GP

namespace GP
open PySem PySem.Spec PyProof.Rows L2 G

theorem law_fin {P : Program} (hP : (P.main.file == fileS) = true) (hT : (P.main.scope.names.lookup ("super" : Str)).isSome = false) {w : World} {K : PySem.W.Frag} {h : Heap} {mg : Str → Option Value} {fa : Addr} (X : K.In h) (G : h.Ns mainGlobals mg) (hfa : mg ("law" : Str) = some (.ref fa)) (c : He.SaysX fA fn [] [] exB w h K) :
    ∃ (K : PySem.W.Frag) (fd : FuncData) (sp : Sp), K.In h ∧ (∀ (s : Shared) (u : Value), BindsTo s fd ⟨[u], []⟩ [("script", u)]) ∧
        (∀ (H : Hp) (a : Addr) (ns : List Int), ns.length ≤ 63 → Only H → SqL K H a (ns.map V.int) → sp [.ref a] H (fun v _ => v = .bl true) fun _ _ _ => False) ∧
        ∀ base : Heap, K.In base → base.Ns mainGlobals mg → FnOk P w K mg base CX0 20 fa fd ["script"] sp := by
  have Y := py_of hP hT X G c
  obtain ⟨fd, F⟩ := Y.d_law
  have e := hfa.symm.trans Y.g_law
  cases e
  have b := FunD.bindsA (ps := ["script"]) F fun _ _ _ _ _ _ us hl => match us, hl with | [_], _ => rfl
  exact ⟨K, fd, fun vs H Q _ => spD K LawS vs H Q E0, X, fun s v => b s [v] rfl, fun H a ns hl _ hS => law_end H a ns hl hS, fun base _ _ => fn_shut (law_fn F Y)⟩
def loose0 : List Str := [("GrainError" : Str), ("InvalidNumber" : Str), ("TooMany" : Str), ("InvalidPaper" : Str), ("NotNow" : Str), ("GREATEST" : Str), ("is_number" : Str), ("checked_number" : Str), ("MOST" : Str), ("checked_amounts" : Str), ("checked_pair" : Str), ("over" : Str), ("fits" : Str), ("allotted" : Str), ("raised" : Str), ("least_raised" : Str), ("kept" : Str), ("mixed" : Str), ("is_better" : Str), ("steps" : Str), ("most_asked" : Str), ("_law_same" : Str), ("_law_pool" : Str), ("_law_draw" : Str), ("_law_pick" : Str), ("_law_amounts" : Str), ("_law_over" : Str), ("_law_given" : Str), ("_law_is_given" : Str), ("_law_least" : Str), ("_law_lowered" : Str), ("_law_refused" : Str), ("_law_mixed_right" : Str)]
abbrev hk : PySem.W.Hook := hookS 4 fA fn exB
def ob (s : PySem.W.SharedT) : He.AlX := obsS 4 fA fn exB (HandSHeadRun.getT s)
theorem ob_eq (s : PySem.W.SharedT) : ob s = hk.obs s.abs := obsS_eq (HandSHeadRun.getT_eq s)
theorem run (w : World) : HandSHeadRun.RunEq (PySem.W.OpenLaw.row PySem.Challenge.rw_grainhaul_k79_raised_mixed_and_better_so) (PySem.W.view (PySem.W.OpenLaw.row PySem.Challenge.rw_grainhaul_k79_raised_mixed_and_better_so).prog [37]) hk ob 3000 (loose0) w := by
  intro os
  kernel_rfl
end GP
open PySem PySem.W PySem.Calls PyProof.Rows
set_option maxHeartbeats 0 in
theorem PySem.Challenge.cw_grainhaul_k79_raised_mixed_and_better_so_holds : PySem.Challenge.rw_grainhaul_k79_raised_mixed_and_better_so.Holds := by
  w_on; o_law
  refine HandSHeadRun.head_any (r := OpenLaw.row PySem.Challenge.rw_grainhaul_k79_raised_mixed_and_better_so) (q := view (OpenLaw.row PySem.Challenge.rw_grainhaul_k79_raised_mixed_and_better_so).prog [37]) (H := GP.hk) (ob := GP.ob) (M := 3000) (loose := GP.loose0) (d := HandSHeadRun.topDef (OpenLaw.row PySem.Challenge.rw_grainhaul_k79_raised_mixed_and_better_so).prog 37) (kwd := []) GP.ob_eq
    (by kernel_rfl) (fun s => by kernel_rfl) GP.run (by kernel_rfl) (by kernel_rfl) (by kernel_rfl) (by rfl) (by first | assumption | decide +kernel) (by decide +kernel) ⟨rfl, rfl, rfl, rfl, rfl, by decide +kernel⟩ ?hw ?hc
  case hw => w_witness2
  case hc =>
    refine L2.walk_ofE (l := PySem.Challenge.rw_grainhaul_k79_raised_mixed_and_better_so) (n := 63) (k := 20) (x := "script") (CX := L2.CX0) rfl (by decide) (by kernel_rfl) ⟨rfl, by decide, by decide⟩ ?F (fun _ _ _ _ z => z)
    intro w mg fa h Y G hmg0
    obtain ⟨K, KX, c⟩ := Y
    have hmg : mg ("law" : PySem.Str) = some (.ref fa) := by
      have e : (HandSHeadRun.topDef (OpenLaw.row PySem.Challenge.rw_grainhaul_k79_raised_mixed_and_better_so).prog 37).name = ("law" : PySem.Str) := by kernel_rfl
      rw [← e]
      exact hmg0
    exact GP.law_fin (by first | rfl | decide +kernel) (by first | rfl | decide +kernel) (w := w) KX G hmg c
