import PyProof.Rows.All
import Wide.All
import OpenK.AllK
import Wide.FinOn
import HandS.ForMost
import HandS.Exc
import HandS.ExcOwn
import HandS.TryOnly
import HandS.WordsExc
import HandS.CallSlots
import HandS.Walk
import HandS.Defaults
import HandS.IsInst
import HandS.Wide
import HandS.Head0
import HandS.Head1
import HandS.Head2
import HandS.HeadEnd
import HandS.HeadHook1
import HandS.HeadHook2
import HandS.HeadHook4
import KE.KStateDown
import PySem.Challenge.RW_grainhaul_k70_slack_resets_and_runs
set_option Elab.async false
set_option linter.all false
set_option maxRecDepth 100000
set_option maxHeartbeats 4000000
/-! GBase: data read off a frozen part of the heap, what a body owns, and what code evaluates to in such words. -/
namespace G
open PySem PySem.Spec PyProof.Rows L2

/-- what stood stands -/
def Ex (H H' : Hp) : Prop := ∀ a o, H a = some o → H' a = some o
theorem Ex.refl (H : Hp) : Ex H H := fun _ _ h => h
theorem Ex.trans {H H1 H2 : Hp} (a : Ex H H1) (b : Ex H1 H2) : Ex H H2 := fun x o h => b x o (a x o h)
theorem Ex.new {H : Hp} {p : Addr} {o : HO} (h : H p = none) : Ex H (upd H p o) := fun a u e => by
  rw [upd_ne (ne_of_none e h)]; exact e
theorem Ex.rd {H H' : Hp} {a : Addr} {u : HO} (e : Ex H H') (h : Rd H a u) : Rd H' a u := by
  rcases h with h | ⟨o, h⟩
  · exact Or.inl (e a _ h)
  · exact Or.inr ⟨o, e a _ h⟩
theorem Ex.l {K : PySem.W.Frag} {H H' : Hp} {a : Addr} {xs : List V} (e : Ex H H') (h : SqL K H a xs) : SqL K H' a xs := by
  rcases h with h | h
  · exact Or.inl (e.rd h)
  · exact Or.inr h
theorem Ex.t {K : PySem.W.Frag} {H H' : Hp} {a : Addr} {xs : List V} (e : Ex H H') (h : SqT K H a xs) : SqT K H' a xs := by
  rcases h with h | h
  · exact Or.inl (e.rd h)
  · exact Or.inr h
theorem Ex.none {H H' : Hp} {p : Addr} (e : Ex H H') (h : H' p = none) : H p = none := by
  cases h1 : H p with
  | none => rfl
  | some o => rw [e p o h1] at h; cases h

/-! ### data -/
/-- a key as data -/
def kD : Key → PyData
  | .inl i => .int i
  | .inr x => .str x
def kDs (k : List Key) : PyData := .tuple (k.map kD)
mutual
/-- the value v reads as the data d, off the heap F -/
inductive Rp (K : PySem.W.Frag) (F : Hp) : V → PyData → Prop
  | non : Rp K F .non .none
  | bl (b : Bool) : Rp K F (.bl b) (.bool b)
  | int (i : Int) : Rp K F (.int i) (.int i)
  | str (x : Str) : Rp K F (.str x) (.str x)
  | lst {a : Addr} {xs : List V} {ds : List PyData} : SqL K F a xs → RpA K F xs ds → Rp K F (.ref a) (.list ds)
  | tup {a : Addr} {xs : List V} {ds : List PyData} : SqT K F a xs → RpA K F xs ds → Rp K F (.ref a) (.tuple ds)
  | dK {a : Addr} {kvs : List (Key × V)} {ds : List PyData} : Rd F a (.dK kvs) → RpA K F (kvs.map (·.2)) ds → Rp K F (.ref a) (.dict ((kvs.map fun p => kD p.1).zip ds))
  | dT {a : Addr} {kvs : List (List Key × V)} {ds : List PyData} : Rd F a (.dT kvs) → kvs ≠ [] → RpA K F (kvs.map (·.2)) ds → Rp K F (.ref a) (.dict ((kvs.map fun p => kDs p.1).zip ds))
inductive RpA (K : PySem.W.Frag) (F : Hp) : List V → List PyData → Prop
  | nil : RpA K F [] []
  | cons {v : V} {vs : List V} {d : PyData} {ds : List PyData} : Rp K F v d → RpA K F vs ds → RpA K F (v :: vs) (d :: ds)
end
section
variable {K : PySem.W.Frag} {F F' : Hp}
mutual
theorem Rp.mono (e : Ex F F') : ∀ {v : V} {d : PyData}, Rp K F v d → Rp K F' v d
  | _, _, .non => .non
  | _, _, .bl b => .bl b
  | _, _, .int b => .int b
  | _, _, .str b => .str b
  | _, _, .lst h r => .lst (e.l h) (RpA.mono e r)
  | _, _, .tup h r => .tup (e.t h) (RpA.mono e r)
  | _, _, .dK h r => .dK (e.rd h) (RpA.mono e r)
  | _, _, .dT h n r => .dT (e.rd h) n (RpA.mono e r)
theorem RpA.mono (e : Ex F F') : ∀ {vs : List V} {ds : List PyData}, RpA K F vs ds → RpA K F' vs ds
  | _, _, .nil => .nil
  | _, _, .cons h r => .cons (Rp.mono e h) (RpA.mono e r)
end
theorem RpA.length : ∀ {vs : List V} {ds : List PyData}, RpA K F vs ds → vs.length = ds.length
  | _, _, .nil => rfl
  | _, _, .cons _ r => by rw [List.length_cons, List.length_cons, RpA.length r]
theorem RpA.get : ∀ {vs : List V} {ds : List PyData} {i : Nat} {d : PyData}, RpA K F vs ds → ds[i]? = some d → ∃ v, vs[i]? = some v ∧ Rp K F v d
  | _, _, _, _, .nil, e => by simp at e
  | _, _, 0, _, .cons h _, e => by simp at e; subst e; exact ⟨_, rfl, h⟩
  | _, _, i + 1, d, .cons _ r, e => by
    obtain ⟨v, a, b⟩ := RpA.get (i := i) (d := d) r (by simpa using e)
    exact ⟨v, by simpa using a, b⟩
theorem RpA.getV : ∀ {vs : List V} {ds : List PyData} {i : Nat} {v : V}, RpA K F vs ds → vs[i]? = some v → ∃ d, ds[i]? = some d ∧ Rp K F v d
  | _, _, _, _, .nil, e => by simp at e
  | _, _, 0, _, .cons h _, e => by simp at e; subst e; exact ⟨_, rfl, h⟩
  | _, _, i + 1, d, .cons _ r, e => by
    obtain ⟨v, a, b⟩ := RpA.getV (i := i) (v := d) r (by simpa using e)
    exact ⟨v, by simpa using a, b⟩
theorem RpA.append : ∀ {vs ws : List V} {ds es : List PyData}, RpA K F vs ds → RpA K F ws es → RpA K F (vs ++ ws) (ds ++ es)
  | _, _, _, _, .nil, s => s
  | _, _, _, _, .cons h r, s => .cons h (RpA.append r s)
theorem RpA.take : ∀ {vs : List V} {ds : List PyData} (n : Nat), RpA K F vs ds → RpA K F (vs.take n) (ds.take n)
  | _, _, 0, _ => .nil
  | _, _, _ + 1, .nil => .nil
  | _, _, n + 1, .cons h r => .cons h (RpA.take n r)
theorem RpA.drop : ∀ {vs : List V} {ds : List PyData} (n : Nat), RpA K F vs ds → RpA K F (vs.drop n) (ds.drop n)
  | _, _, 0, r => r
  | _, _, _ + 1, .nil => .nil
  | _, _, n + 1, .cons _ r => RpA.drop n r
theorem RpA.set : ∀ {vs : List V} {ds : List PyData} (i : Nat) {v : V} {d : PyData}, RpA K F vs ds → Rp K F v d → RpA K F (vs.set i v) (ds.set i d)
  | _, _, _, _, _, .nil, _ => .nil
  | _, _, 0, _, _, .cons _ r, x => .cons x r
  | _, _, i + 1, _, _, .cons h r, x => .cons h (RpA.set i r x)
theorem RpA.reverse : ∀ {vs : List V} {ds : List PyData}, RpA K F vs ds → RpA K F vs.reverse ds.reverse
  | _, _, .nil => .nil
  | _, _, .cons h r => by rw [List.reverse_cons, List.reverse_cons]; exact RpA.append (RpA.reverse r) (.cons h .nil)
theorem RpA.ints : ∀ (ns : List Int), RpA K F (ns.map V.int) (ns.map PyData.int)
  | [] => .nil
  | n :: ns => .cons (.int n) (RpA.ints ns)
theorem RpA.ints_inv : ∀ {vs : List V} {ns : List Int}, RpA K F vs (ns.map PyData.int) → vs = ns.map V.int
  | _, [], h => by cases h; rfl
  | _, n :: ns, h => by
    rw [List.map_cons] at h
    cases h with
    | cons a b => cases a; rw [RpA.ints_inv b]; rfl
theorem RpA.bls_inv : ∀ {vs : List V} {ns : List Bool}, RpA K F vs (ns.map PyData.bool) → vs = ns.map V.bl
  | _, [], h => by cases h; rfl
  | _, n :: ns, h => by
    rw [List.map_cons] at h
    cases h with
    | cons a b => cases a; rw [RpA.bls_inv b]; rfl
theorem RpA.strs_inv : ∀ {vs : List V} {ns : List Str}, RpA K F vs (ns.map PyData.str) → vs = ns.map V.str
  | _, [], h => by cases h; rfl
  | _, n :: ns, h => by
    rw [List.map_cons] at h
    cases h with
    | cons a b => cases a; rw [RpA.strs_inv b]; rfl
end

/-! ### what a slot holds -/
/-- what stands at an address that is the body's own: a list, a dict (keys ints and texts; tuples of them) -/
inductive Ct where
  | l (xs : List PyData)
  | d (kvs : List (Key × PyData))
  | t (kvs : List (List Key × PyData))
/-- un: nothing is said; d: data; o: an object of the body's own (its address, if it is told) -/
inductive Sl where
  | un
  | d (x : PyData)
  | o (p : Option Addr) (c : Ct)
abbrev En := List Sl
abbrev Sl.ol (xs : List PyData) : Sl := .o none (.l xs)
abbrev Sl.od (kvs : List (Key × PyData)) : Sl := .o none (.d kvs)
abbrev Sl.ot (kvs : List (List Key × PyData)) : Sl := .o none (.t kvs)

def KvA {κ : Type} (K : PySem.W.Frag) (F : Hp) (kvs : List (κ × V)) (ds : List (κ × PyData)) : Prop := kvs.map (·.1) = ds.map (·.1) ∧ RpA K F (kvs.map (·.2)) (ds.map (·.2))
theorem KvA.mono {κ : Type} {K : PySem.W.Frag} {F F' : Hp} {kvs : List (κ × V)} {ds : List (κ × PyData)} (e : Ex F F') (h : KvA K F kvs ds) : KvA K F' kvs ds := ⟨h.1, h.2.mono e⟩

/-- what stands at an owned address -/
def Own1 (K : PySem.W.Frag) (F H : Hp) (l : Addr) : Ct → Prop
  | .l xs => ∃ vs, H l = some (.lst vs) ∧ RpA K F vs xs
  | .d ds => ∃ kvs, H l = some (.dK kvs) ∧ KvA K F kvs ds
  | .t ds => ∃ kvs, H l = some (.dT kvs) ∧ KvA K F kvs ds
def SlOk (K : PySem.W.Frag) (F H : Hp) (o : Option V) (s : Sl) : Prop :=
  match s with
  | .un => True
  | .d x => ∃ v, o = some v ∧ Rp K F v x
  | .o p c => ∃ l, o = some (.ref l) ∧ (p = none ∨ p = some l) ∧ Own1 K F H l c
def Sl.isOwn : Sl → Bool
  | .o _ _ => true
  | _ => false
/-- the addresses that a slot owns -/
def Owns (σ : L2.St) (ρ : En) (i : Nat) (a : Addr) : Prop := σ[i]? = some (some (.ref a)) ∧ ∃ s, ρ[i]? = some s ∧ s.isOwn = true

/-- the entry: the frozen heap, the heap, what may be changed of it -/
structure Cn where
  F0 : Hp
  H0 : Hp
  M : List Addr
/-- what holds of F and H through the body -/
structure Fr (C : Cn) (F H : Hp) : Prop where
  ext : Ex F H
  f0 : Ex C.F0 F
  h0 : ∀ a o, C.H0 a = some o → a ∉ C.M → H a = some o
  there : ∀ a, H a = none → C.H0 a = none
  new : ∀ a, C.H0 a ≠ none → C.F0 a = none → F a = none
  mM : ∀ a ∈ C.M, C.H0 a ≠ none
structure SE (K : PySem.W.Frag) (C : Cn) (F H : Hp) (σ : L2.St) (ρ : En) : Prop where
  fr : Fr C F H
  len : σ.length = ρ.length
  ok : ∀ (i : Nat) (s : Sl), ρ[i]? = some s → SlOk K F H (σ[i]?.join) s
  sep : ∀ (i j : Nat) (a : Addr), Owns σ ρ i a → Owns σ ρ j a → i = j
  own : ∀ (i : Nat) (a : Addr), Owns σ ρ i a → F a = none ∧ H a ≠ none ∧ (C.H0 a = none ∨ a ∈ C.M)
  fresh : ∀ (i : Nat) (a : Addr) (c : Ct), ρ[i]? = some (.o none c) → σ[i]? = some (some (.ref a)) → C.H0 a = none

/-! ### growth -/
/-- F and H grow by new objects -/
structure Gr (F H F' H' : Hp) : Prop where
  f : Ex F F'
  h : Ex H H'
  fh : Ex F' H'
  new : ∀ a, H a ≠ none → F a = none → F' a = none
theorem Gr.refl {F H : Hp} (e : Ex F H) : Gr F H F H := ⟨.refl _, .refl _, e, fun _ _ h => h⟩
theorem Gr.trans {F H F1 H1 F2 H2 : Hp} (a : Gr F H F1 H1) (b : Gr F1 H1 F2 H2) : Gr F H F2 H2 :=
  ⟨a.f.trans b.f, a.h.trans b.h, b.fh, fun x hx fx => b.new x (fun z => hx (a.h.none z)) (a.new x hx fx)⟩
theorem ne_none {H : Hp} {a : Addr} {o : HO} (h : H a = some o) : H a ≠ none := by rw [h]; exact fun z => nomatch z
theorem some_of {H : Hp} {a : Addr} (h : H a ≠ none) : ∃ o, H a = some o := by
  cases e : H a with
  | none => exact absurd e h
  | some o => exact ⟨o, rfl⟩
theorem ex_upd {F H : Hp} {p : Addr} {o : HO} (e : Ex F H) : Ex (upd F p o) (upd H p o) := fun a u h => by
  by_cases q : a = p
  · rw [q, upd_same] at h ⊢; exact h
  · rw [upd_ne q] at h ⊢; exact e a u h
/-- a new frozen object -/
theorem Gr.push {F H : Hp} {p : Addr} {o : HO} (e : Ex F H) (hp : H p = none) : Gr F H (upd F p o) (upd H p o) :=
  ⟨.new (e.none hp), .new hp, ex_upd e, fun a ha fa => by rw [upd_ne (fun z => ha (by rw [z]; exact hp))]; exact fa⟩
/-- a new object, not frozen -/
theorem Gr.side {F H : Hp} {p : Addr} {o : HO} (e : Ex F H) (hp : H p = none) : Gr F H F (upd H p o) :=
  ⟨.refl _, .new hp, e.trans (.new hp), fun _ _ h => h⟩
section
variable {K : PySem.W.Frag} {C : Cn} {F H F' H' : Hp} {σ : L2.St} {ρ : En}
theorem Fr.grow (f : Fr C F H) (g : Gr F H F' H') : Fr C F' H' :=
  ⟨g.fh, f.f0.trans g.f, fun a o h m => g.h a o (f.h0 a o h m), fun a h => f.there a (g.h.none h), fun a h z => g.new a (fun q => h (f.there a q)) (f.new a h z), f.mM⟩
theorem Own1.grow {l : Addr} {s : Ct} (x : Ex F F') (h2 : ∀ o, H l = some o → H' l = some o) (h : Own1 K F H l s) : Own1 K F' H' l s := by
  cases s with
  | l xs => obtain ⟨vs, a, b⟩ := h; exact ⟨vs, h2 _ a, b.mono x⟩
  | d xs => obtain ⟨vs, a, b⟩ := h; exact ⟨vs, h2 _ a, b.mono x⟩
  | t xs => obtain ⟨vs, a, b⟩ := h; exact ⟨vs, h2 _ a, b.mono x⟩
theorem Own1.some {l : Addr} {s : Ct} (h : Own1 K F H l s) : H l ≠ none := by
  cases s with
  | l xs => obtain ⟨vs, a, b⟩ := h; exact ne_none a
  | d xs => obtain ⟨vs, a, b⟩ := h; exact ne_none a
  | t xs => obtain ⟨vs, a, b⟩ := h; exact ne_none a
theorem SlOk.grow {o : Option V} {s : Sl} (x : Ex F F') (h2 : ∀ l u, o = .some (.ref l) → s.isOwn = true → H l = .some u → H' l = .some u) (h : SlOk K F H o s) : SlOk K F' H' o s := by
  cases s with
  | un => exact h
  | d x' => obtain ⟨v, a, b⟩ := h; exact ⟨v, a, b.mono x⟩
  | o p c => obtain ⟨l, a, p', b⟩ := h; exact ⟨l, a, p', b.grow x (fun u => h2 l u a rfl)⟩
theorem SE.grow (e : SE K C F H σ ρ) (g : Gr F H F' H') : SE K C F' H' σ ρ :=
  ⟨e.fr.grow g, e.len, fun i s h => (e.ok i s h).grow g.f (fun _ _ _ _ q => g.h _ _ q), e.sep, fun i a h => by
    obtain ⟨x, y, z⟩ := e.own i a h
    exact ⟨g.new a y x, fun q => y (g.h.none q), z⟩, e.fresh⟩

/-! ### slots read and set -/
theorem set_at {α : Type} {l : List α} {i : Nat} {x y : α} (h : (l.set i x)[i]? = some y) : x = y ∧ i < l.length := by
  rw [List.getElem?_set, if_pos rfl] at h
  split at h
  · rename_i q; exact ⟨Option.some.inj h, q⟩
  · cases h
theorem join_some {α : Type} {x : Option (Option α)} {v : α} (h : x.join = some v) : x = some (some v) := by
  cases x with
  | none => cases h
  | some o => exact congrArg some h
theorem SE.get (e : SE K C F H σ ρ) {i : Nat} {x : PyData} (h : ρ[i]? = some (.d x)) : ∃ v, σ[i]? = some (some v) ∧ Rp K F v x := by
  obtain ⟨v, a, b⟩ := e.ok i _ h
  exact ⟨v, join_some a, b⟩
theorem SE.getO (e : SE K C F H σ ρ) {i : Nat} {p : Option Addr} {c : Ct} (h : ρ[i]? = some (.o p c)) : ∃ l, σ[i]? = some (some (.ref l)) ∧ (p = none ∨ p = some l) ∧ Own1 K F H l c ∧ Owns σ ρ i l := by
  obtain ⟨l, a, b, d⟩ := e.ok i _ h
  exact ⟨l, join_some a, b, d, join_some a, _, h, rfl⟩
theorem own_set {i j : Nat} {o : Option V} {s : Sl} {a : Addr} (h : Owns (σ.set i o) (ρ.set i s) j a) : (j = i ∧ o = some (.ref a) ∧ s.isOwn = true) ∨ (j ≠ i ∧ Owns σ ρ j a) := by
  obtain ⟨h1, t, h2, h3⟩ := h
  by_cases q : j = i
  · subst q
    exact .inl ⟨rfl, (set_at h1).1, by rw [(set_at h2).1]; exact h3⟩
  · rw [List.getElem?_set_ne (Ne.symm q)] at h1 h2
    exact .inr ⟨q, h1, t, h2, h3⟩
theorem SE.set (e : SE K C F H σ ρ) {i : Nat} {v : V} {s : Sl} (h : SlOk K F H (some v) s) (hn : s.isOwn = true → ∀ a, v = .ref a → F a = none ∧ H a ≠ none ∧ (C.H0 a = none ∨ a ∈ C.M) ∧ (∀ j, j ≠ i → ¬ Owns σ ρ j a) ∧ (∀ c, s = .o none c → C.H0 a = none)) : SE K C F H (σ.set i (some v)) (ρ.set i s) := by
  refine ⟨e.fr, by rw [List.length_set, List.length_set, e.len], fun j t ht => ?_, fun j k a hj hk => ?_, fun j a hj => ?_, fun j a c h1 h2 => ?_⟩
  · by_cases q : j = i
    · subst q
      obtain ⟨rfl, hj⟩ := set_at ht
      rw [List.getElem?_set, if_pos rfl, if_pos (by rw [e.len]; exact hj)]
      exact h
    · rw [List.getElem?_set_ne (Ne.symm q)] at ht ⊢
      exact e.ok j t ht
  · rcases own_set hj with ⟨rfl, o1, s1⟩ | ⟨n1, o1⟩ <;> rcases own_set hk with ⟨rfl, o2, s2⟩ | ⟨n2, o2⟩
    · rfl
    · exact absurd o2 ((hn s1 a (Option.some.inj o1)).2.2.2.1 k n2)
    · exact absurd o1 ((hn s2 a (Option.some.inj o2)).2.2.2.1 j n1)
    · exact e.sep j k a o1 o2
  · rcases own_set hj with ⟨rfl, o1, s1⟩ | ⟨n1, o1⟩
    · exact ⟨(hn s1 a (Option.some.inj o1)).1, (hn s1 a (Option.some.inj o1)).2.1, (hn s1 a (Option.some.inj o1)).2.2.1⟩
    · exact e.own j a o1
  · by_cases q : j = i
    · subst q
      obtain ⟨q1, _⟩ := set_at h1
      obtain ⟨q2, _⟩ := set_at h2
      exact (hn (by rw [q1]; rfl) a (Option.some.inj q2)).2.2.2.2 c q1
    · rw [List.getElem?_set_ne (Ne.symm q)] at h1 h2
      exact e.fresh j a c h1 h2
theorem SE.setD (e : SE K C F H σ ρ) {i : Nat} {v : V} {x : PyData} (h : Rp K F v x) : SE K C F H (σ.set i (some v)) (ρ.set i (.d x)) :=
  e.set ⟨v, rfl, h⟩ fun z => nomatch z
theorem SE.setU (e : SE K C F H σ ρ) {i : Nat} {v : V} : SE K C F H (σ.set i (some v)) (ρ.set i .un) := e.set trivial fun z => nomatch z
/-- a name is given a new object -/
theorem SE.setOwn (e : SE K C F H σ ρ) {i : Nat} {c : Ct} {p : Addr} (fp : F p = none) (h0 : C.H0 p = none) (no : ∀ j, ¬ Owns σ ρ j p) (h : Own1 K F H p c) : SE K C F H (σ.set i (some (.ref p))) (ρ.set i (.o none c)) :=
  e.set ⟨p, rfl, .inl rfl, h⟩ fun _ a q => by
    cases q
    exact ⟨fp, h.some, .inl h0, fun j _ o => no j o, fun _ _ => h0⟩
theorem slot_own {s : Sl} {j : Nat} {b : Addr} (h : ρ[j]? = some s) (o : s.isOwn = true) (c : σ[j]? = some (some (.ref b))) : Owns σ ρ j b := ⟨c, s, h, o⟩
/-- an owned object has changed -/
theorem SE.wr (e : SE K C F H σ ρ) {i : Nat} {l : Addr} {p : Option Addr} {c c' : Ct} {o : HO} (hi : ρ[i]? = some (.o p c)) (hl : σ[i]? = some (some (.ref l))) (h : Own1 K F (L2.upd H l o) l c') : SE K C F (L2.upd H l o) σ (ρ.set i (.o p c')) := by
  have ow : Owns σ ρ i l := ⟨hl, _, hi, rfl⟩
  obtain ⟨w1, w2, w3⟩ := e.own i l ow
  have hp : p = none ∨ p = some l := by
    obtain ⟨l', a, b, _⟩ := e.getO hi
    rw [hl] at a
    cases a
    exact b
  have eF : Ex F (L2.upd H l o) := fun a u hu => by
    have na : a ≠ l := fun z => by rw [z, w1] at hu; cases hu
    rw [upd_ne na]; exact e.fr.ext a u hu
  have conv : ∀ j a, Owns σ (ρ.set i (.o p c')) j a → Owns σ ρ j a := fun j a hj => by
    obtain ⟨h1, t, h2, h3⟩ := hj
    by_cases q : j = i
    · subst q
      rw [hl] at h1
      cases h1
      exact ow
    · rw [List.getElem?_set_ne (Ne.symm q)] at h2
      exact ⟨h1, t, h2, h3⟩
  refine ⟨⟨eF, e.fr.f0, fun a u hu m => ?_, fun a ha => ?_, e.fr.new, e.fr.mM⟩, by rw [List.length_set]; exact e.len, fun j t ht => ?_, fun j k a hj hk => e.sep j k a (conv j a hj) (conv k a hk), fun j a hj => ?_, fun j a d h1 h2 => ?_⟩
  · by_cases q : a = l
    · subst q
      rcases w3 with z | z
      · rw [z] at hu; cases hu
      · exact absurd z m
    · rw [upd_ne q]; exact e.fr.h0 a u hu m
  · by_cases q : a = l
    · subst q; rw [upd_same] at ha; cases ha
    · rw [upd_ne q] at ha; exact e.fr.there a ha
  · by_cases q : j = i
    · subst q
      obtain ⟨rfl, _⟩ := set_at ht
      rw [hl]
      exact ⟨l, rfl, hp, h⟩
    · rw [List.getElem?_set_ne (Ne.symm q)] at ht
      refine (e.ok j t ht).grow (.refl _) fun b u hb ot hu => ?_
      rw [upd_ne (fun nb => q (by subst nb; exact e.sep j i b (slot_own ht ot (join_some hb)) ow))]
      exact hu
  · obtain ⟨x1, x2, x3⟩ := e.own j a (conv j a hj)
    refine ⟨x1, ?_, x3⟩
    by_cases q : a = l
    · subst q; rw [upd_same]; exact fun z => nomatch z
    · rw [upd_ne q]; exact x2
  · by_cases q : j = i
    · subst q
      obtain ⟨q1, _⟩ := set_at h1
      cases q1
      exact e.fresh j a c hi h2
    · rw [List.getElem?_set_ne (Ne.symm q)] at h1
      exact e.fresh j a d h1 h2
/-- an object that nothing owns is frozen -/
theorem SE.frz (e : SE K C F H σ ρ) {p : Addr} {o : HO} (fp : F p = none) (hp : H p = some o) (h0 : C.H0 p = none) (no : ∀ j, ¬ Owns σ ρ j p) : SE K C (L2.upd F p o) H σ ρ := by
  have ex : Ex F (L2.upd F p o) := .new fp
  refine ⟨⟨fun a u h => ?_, e.fr.f0.trans ex, e.fr.h0, e.fr.there, fun a h z => ?_, e.fr.mM⟩, e.len, fun i s hs => (e.ok i s hs).grow ex (fun _ _ _ _ q => q), e.sep, fun i a ha => ?_, ?_⟩
  · by_cases q : a = p
    · rw [q, upd_same] at h; rw [q, hp]; exact h
    · rw [upd_ne q] at h; exact e.fr.ext a u h
  · rw [upd_ne (fun q => h (by rw [q]; exact h0))]; exact e.fr.new a h z
  · obtain ⟨x, y, z⟩ := e.own i a ha
    exact ⟨by rw [upd_ne (fun q => no i (by rw [← q]; exact ha))]; exact x, y, z⟩
  · exact e.fresh
theorem not_owns_new (e : SE K C F H σ ρ) {p : Addr} (hp : H p = none) : ∀ j, ¬ Owns σ ρ j p := fun j o => (e.own j p o).2.1 hp
/-- an object that a name owned (a new one) becomes data -/
theorem SE.thaw (e : SE K C F H σ ρ) {i : Nat} {l : Addr} {c : Ct} {o : HO} {x : PyData} (hi : ρ[i]? = some (.o none c)) (hl : σ[i]? = some (some (.ref l))) (ho : H l = some o) (hx : Rp K (L2.upd F l o) (.ref l) x) : SE K C (L2.upd F l o) H σ (ρ.set i (.d x)) := by
  have ow : Owns σ ρ i l := ⟨hl, _, hi, rfl⟩
  have hn : C.H0 l = none := e.fresh i l c hi hl
  obtain ⟨w1, w2, w3⟩ := e.own i l ow
  have conv : ∀ j a, Owns σ (ρ.set i (.d x)) j a → j ≠ i ∧ Owns σ ρ j a := fun j a hj => by
    obtain ⟨h1, t, h2, h3⟩ := hj
    by_cases q : j = i
    · subst q
      obtain ⟨rfl, _⟩ := set_at h2
      cases h3
    · rw [List.getElem?_set_ne (Ne.symm q)] at h2
      exact ⟨q, h1, t, h2, h3⟩
  have ex : Ex F (L2.upd F l o) := .new w1
  refine ⟨⟨fun a u h => ?_, e.fr.f0.trans ex, e.fr.h0, e.fr.there, fun a h z => ?_, e.fr.mM⟩, by rw [List.length_set]; exact e.len, fun j t ht => ?_, fun j k a hj hk => e.sep j k a (conv j a hj).2 (conv k a hk).2, fun j a hj => ?_, fun j a d h1 h2 => ?_⟩
  · by_cases q : a = l
    · rw [q, upd_same] at h; rw [q, ho]; exact h
    · rw [upd_ne q] at h; exact e.fr.ext a u h
  · rw [upd_ne (fun q => h (by rw [q]; exact hn))]; exact e.fr.new a h z
  · by_cases q : j = i
    · subst q
      obtain ⟨rfl, _⟩ := set_at ht
      rw [hl]
      exact ⟨_, rfl, hx⟩
    · rw [List.getElem?_set_ne (Ne.symm q)] at ht
      exact (e.ok j t ht).grow ex (fun _ _ _ _ z => z)
  · obtain ⟨q, oj⟩ := conv j a hj
    obtain ⟨x1, x2, x3⟩ := e.own j a oj
    exact ⟨by rw [upd_ne (fun z => q (by subst z; exact e.sep j i a oj ow))]; exact x1, x2, x3⟩
  · by_cases q : j = i
    · subst q
      obtain ⟨q1, _⟩ := set_at h1
      cases q1
    · rw [List.getElem?_set_ne (Ne.symm q)] at h1
      exact e.fresh j a d h1 h2

/-! ### less said -/
inductive Le : En → En → Prop
  | nil : Le [] []
  | un {s : Sl} {ρ ρ' : En} : Le ρ ρ' → Le (.un :: ρ) (s :: ρ')
  | eq {s : Sl} {ρ ρ' : En} : Le ρ ρ' → Le (s :: ρ) (s :: ρ')
theorem Le.refl : ∀ ρ : En, Le ρ ρ
  | [] => .nil
  | _ :: ρ => .eq (Le.refl ρ)
theorem Le.len : ∀ {ρ ρ' : En}, Le ρ ρ' → ρ.length = ρ'.length
  | _, _, .nil => rfl
  | _, _, .un h => by rw [List.length_cons, List.length_cons, Le.len h]
  | _, _, .eq h => by rw [List.length_cons, List.length_cons, Le.len h]
theorem Le.get : ∀ {ρ ρ' : En} {i : Nat} {s : Sl}, Le ρ ρ' → ρ[i]? = some s → s = .un ∨ ρ'[i]? = some s
  | _, _, _, _, .nil, h => by simp at h
  | _, _, 0, s, .un _, h => by simp at h; exact .inl h.symm
  | _, _, 0, s, .eq _, h => by simp at h; subst h; exact .inr rfl
  | _, _, i + 1, s, .un r, h => by
    have := Le.get (i := i) (s := s) r (by simpa using h)
    simpa using this
  | _, _, i + 1, s, .eq r, h => by
    have := Le.get (i := i) (s := s) r (by simpa using h)
    simpa using this
theorem SE.le {ρ' : En} (e : SE K C F H σ ρ) (h : Le ρ' ρ) : SE K C F H σ ρ' := by
  have conv : ∀ j a, Owns σ ρ' j a → Owns σ ρ j a := fun j a ⟨h1, t, h2, h3⟩ => by
    rcases h.get h2 with z | z
    · subst z; cases h3
    · exact ⟨h1, t, z, h3⟩
  refine ⟨e.fr, e.len.trans h.len.symm, fun i s hs => ?_, fun j k a hj hk => e.sep j k a (conv j a hj) (conv k a hk), fun j a hj => e.own j a (conv j a hj), fun j a c h1 h2 => ?_⟩
  · rcases h.get hs with z | z
    · subst z; trivial
    · exact e.ok i s z
  · rcases h.get h1 with z | z
    · cases z
    · exact e.fresh j a c z h2
/-- σ forgotten where nothing is said -/
theorem SE.sub {σ' : L2.St} (e : SE K C F H σ ρ) (hl : σ'.length = σ.length) (h : ∀ (i : Nat) (s : Sl), ρ[i]? = some s → s ≠ Sl.un → σ'[i]? = σ[i]?) : SE K C F H σ' ρ := by
  have conv : ∀ j a, Owns σ' ρ j a → Owns σ ρ j a := fun j a ⟨h1, t, h2, h3⟩ => ⟨by rw [← h j t h2 (fun z => by subst z; cases h3)]; exact h1, t, h2, h3⟩
  refine ⟨e.fr, hl.trans e.len, fun i s hs => ?_, fun j k a hj hk => e.sep j k a (conv j a hj) (conv k a hk), fun j a hj => e.own j a (conv j a hj), fun j a c h1 h2 => e.fresh j a c h1 (by rw [← h j _ h1 (fun z => nomatch z)]; exact h2)⟩
  by_cases q : s = .un
  · subst q; trivial
  · rw [h i s hs q]; exact e.ok i s hs
/-- another entry -/
theorem SE.rebase (e : SE K C F H σ ρ) : SE K ⟨F, C.H0, C.M⟩ F H σ ρ := ⟨⟨e.fr.ext, .refl _, e.fr.h0, e.fr.there, fun _ _ z => z, e.fr.mM⟩, e.len, e.ok, e.sep, e.own, e.fresh⟩
theorem SE.unbase {F1 H1 : Hp} (f : Fr C F1 H1) (e : SE K ⟨F1, C.H0, C.M⟩ F H σ ρ) : SE K C F H σ ρ :=
  ⟨⟨e.fr.ext, f.f0.trans e.fr.f0, e.fr.h0, e.fr.there, fun a h z => e.fr.new a h (f.new a h z), e.fr.mM⟩, e.len, e.ok, e.sep, e.own, e.fresh⟩
end
end G

/-! GExpr: expressions and tests in words of data. -/
namespace G
open PySem PySem.Spec PyProof.Rows L2

section
variable {X : Cx}
theorem PE_imp {e : Expr} {t t' : TE} (h : PE X e t) (i : ∀ σ H Q, t' σ H Q → t σ H Q) : PE X e t' := ⟨fun pins s σ H Q I q => h.run pins s σ H Q I (i _ _ _ q)⟩
theorem PT_imp {e : Expr} {t t' : TT} (h : PT X e t) (i : ∀ σ H Q, t' σ H Q → t σ H Q) : PT X e t' := ⟨fun pins s σ H Q I q => h.run pins s σ H Q I (i _ _ _ q)⟩
theorem PW_imp {e : Expr} {t t' : TT} (h : PW X e t) (i : ∀ σ H Q, t' σ H Q → t σ H Q) : PW X e t' := ⟨fun wh pins s σ H Q I q => h.run wh pins s σ H Q I (i _ _ _ q)⟩
theorem PA_imp {e : List Expr} {t t' : TA} (h : PA X e t) (i : ∀ σ H Q, t' σ H Q → t σ H Q) : PA X e t' := ⟨fun pos pins s σ H Q I q => h.run pos pins s σ H Q I (i _ _ _ q)⟩
theorem PS_imp {e : Stmt} {t t' : TS} (h : PS X e t) (i : ∀ D σ H, t' D σ H → t D σ H) : PS X e t' := ⟨fun pins s σ H Q I q => h.run pins s σ H Q I (i _ _ _ q)⟩
theorem PSs_imp {e : List Stmt} {t t' : TS} (h : PSs X e t) (i : ∀ D σ H, t' D σ H → t D σ H) : PSs X e t' := ⟨fun pins s σ H Q I q => h.run pins s σ H Q I (i _ _ _ q)⟩
theorem PE_ex {ι : Type} {e : Expr} {t : ι → TE} (h : ∀ i, PE X e (t i)) : PE X e (fun σ H Q => ∃ i, t i σ H Q) := ⟨fun pins s σ H Q I ⟨i, q⟩ => (h i).run pins s σ H Q I q⟩
theorem PT_ex {ι : Type} {e : Expr} {t : ι → TT} (h : ∀ i, PT X e (t i)) : PT X e (fun σ H Q => ∃ i, t i σ H Q) := ⟨fun pins s σ H Q I ⟨i, q⟩ => (h i).run pins s σ H Q I q⟩
theorem PTs_ex {ι : Type} {e : List Expr} {t : ι → TT} (h : ∀ i, PTs X e (t i)) : PTs X e (fun σ H Q => ∃ i, t i σ H Q) := ⟨fun pins s σ H Q I ⟨i, q⟩ => (h i).run pins s σ H Q I q⟩
theorem PSs_ex {ι : Type} {e : List Stmt} {t : ι → TS} (h : ∀ i, PSs X e (t i)) : PSs X e (fun D σ H => ∃ i, t i D σ H) := ⟨fun pins s σ H D I ⟨i, q⟩ => (h i).run pins s σ H D I q⟩
end

/-! ### readings -/
/-- data x comes, the slots are then ρ' -/
def tP (K : PySem.W.Frag) (ρ : En) (x : PyData) (ρ' : En) : TE := fun σ H Q => ∃ C F, SE K C F H σ ρ ∧ ∀ v F' H', Ex F F' → SE K C F' H' σ ρ' → Rp K F' v x → Q v H'
/-- a new object comes -/
def tN (K : PySem.W.Frag) (ρ : En) (s : Ct) (ρ' : En) : TE := fun σ H Q => ∃ C F, SE K C F H σ ρ ∧ ∀ p F' H', Ex F F' → SE K C F' H' σ ρ' → F' p = none → C.H0 p = none → (∀ j, ¬ Owns σ ρ' j p) → Own1 K F' H' p s → Q (.ref p) H'
/-- a list comes: data, or the one that the slot owns -/
def SrcV (K : PySem.W.Frag) (F : Hp) (σ : L2.St) (src : Option Nat) (v : V) (xs : List PyData) : Prop :=
  match src with
  | none => ∃ a vs, v = .ref a ∧ SqL K F a vs ∧ RpA K F vs xs
  | some i => ∃ a, v = .ref a ∧ σ[i]? = some (some (.ref a))
def SrcOk (ρ : En) (src : Option Nat) (xs : List PyData) : Prop :=
  match src with
  | none => True
  | some i => ∃ p, ρ[i]? = some (.o p (.l xs))
def tQ (K : PySem.W.Frag) (ρ : En) (src : Option Nat) (xs : List PyData) (ρ' : En) : TE := fun σ H Q => ∃ C F, SE K C F H σ ρ ∧ ∀ v F' H', Ex F F' → SE K C F' H' σ ρ' → SrcV K F' σ src v xs → Q v H'
def tT (K : PySem.W.Frag) (ρ : En) (b : Bool) (ρ' : En) : TT := fun σ H Q => ∃ C F, SE K C F H σ ρ ∧ ∀ F' H', Ex F F' → SE K C F' H' σ ρ' → Q b H'
def tAs (K : PySem.W.Frag) (ρ : En) (xs : List PyData) (ρ' : En) : TA := fun σ H Q => ∃ C F, SE K C F H σ ρ ∧ ∀ vs F' H', Ex F F' → SE K C F' H' σ ρ' → RpA K F' vs xs → Q vs H'

abbrev PD (X : Cx) (e : Expr) (ρ : En) (x : PyData) (ρ' : En) : Prop := PE X e (tP X.K ρ x ρ')
abbrev PN (X : Cx) (e : Expr) (ρ : En) (s : Ct) (ρ' : En) : Prop := PE X e (tN X.K ρ s ρ')
abbrev PQ (X : Cx) (e : Expr) (ρ : En) (src : Option Nat) (xs : List PyData) (ρ' : En) : Prop := PE X e (tQ X.K ρ src xs ρ')
abbrev TD (X : Cx) (e : Expr) (ρ : En) (b : Bool) (ρ' : En) : Prop := PT X e (tT X.K ρ b ρ')
abbrev WD (X : Cx) (e : Expr) (ρ : En) (b : Bool) (ρ' : En) : Prop := PW X e (tT X.K ρ b ρ')
abbrev AD (X : Cx) (es : List Expr) (ρ : En) (xs : List PyData) (ρ' : En) : Prop := PA X es (tAs X.K ρ xs ρ')

section
variable {K : PySem.W.Frag} {C : Cn} {F H F' H' : Hp} {σ : L2.St} {ρ : En}
theorem SrcV.mono {src : Option Nat} {v : V} {xs : List PyData} (x : Ex F F') (h : SrcV K F σ src v xs) : SrcV K F' σ src v xs := by
  cases src with
  | none => obtain ⟨a, vs, b, c, d⟩ := h; exact ⟨a, vs, b, x.l c, d.mono x⟩
  | some i => exact h
theorem SrcV.look {src : Option Nat} {v : V} {xs : List PyData} (e : SE K C F H σ ρ) (h : SrcV K F σ src v xs) (ok : SrcOk ρ src xs) : ∃ a vs, v = .ref a ∧ SqL K H a vs ∧ RpA K F vs xs := by
  cases src with
  | none => obtain ⟨a, vs, b, c, d⟩ := h; exact ⟨a, vs, b, e.fr.ext.l c, d⟩
  | some i =>
    obtain ⟨a, rfl, h⟩ := h
    obtain ⟨p, ok⟩ := ok
    obtain ⟨l, h1, _, ⟨vs, h2, h3⟩, _⟩ := e.getO ok
    rw [h] at h1
    cases h1
    exact ⟨a, vs, rfl, SqL.of h2, h3⟩
end

section
variable {X : Cx} {e a b c : Expr} {es : List Expr} {pos : Pos} {ρ ρ' ρ1 ρ2 ρ3 : En} {x y z : PyData} {xs ys : List PyData}

/-- a new list as data -/
theorem pd_n (h : PN X e ρ (.l xs) ρ') : PD X e ρ (.list xs) ρ' := PE_imp h fun σ H Q ⟨C, F, se, q⟩ => ⟨C, F, se, fun p F' H' x se' fp h0 no ⟨vs, hp, r⟩ =>
  q (.ref p) (upd F' p (.lst vs)) H' (x.trans (.new fp)) (se'.frz fp hp h0 no) (.lst (SqL.of upd_same) (r.mono (.new fp)))⟩
theorem keys_zip {κ : Type} (f : κ → PyData) {kvs : List (κ × V)} {ds : List (κ × PyData)} (h : kvs.map (·.1) = ds.map (·.1)) : (kvs.map fun p => f p.1).zip (ds.map (·.2)) = ds.map fun p => (f p.1, p.2) := by
  have e : (kvs.map fun p => f p.1) = ds.map fun p => f p.1 := by
    have e1 : (kvs.map fun p => f p.1) = (kvs.map (·.1)).map f := by rw [List.map_map]; rfl
    have e2 : (ds.map fun p => f p.1) = (ds.map (·.1)).map f := by rw [List.map_map]; rfl
    rw [e1, e2, h]
  rw [e, List.zip_map']
/-- a new dict as data -/
theorem pd_nd {ds : List (Key × PyData)} (h : PN X e ρ (.d ds) ρ') : PD X e ρ (.dict (ds.map fun p => (kD p.1, p.2))) ρ' := PE_imp h fun σ H Q ⟨C, F, se, q⟩ => ⟨C, F, se, fun p F' H' x se' fp h0 no ⟨kvs, hp, r⟩ =>
  q (.ref p) (upd F' p (.dK kvs)) H' (x.trans (.new fp)) (se'.frz fp hp h0 no) (by rw [← keys_zip kD r.1]; exact .dK (Or.inl upd_same) (r.2.mono (.new fp)))⟩
theorem pq_d (h : PD X e ρ (.list xs) ρ') : PQ X e ρ none xs ρ' := PE_imp h fun σ H Q ⟨C, F, se, q⟩ => ⟨C, F, se, fun v F' H' x se' r => q v F' H' x se' (by
  cases r with
  | lst h1 h2 => exact ⟨_, _, rfl, h1, h2⟩)⟩
theorem pq_n (h : PN X e ρ (.l xs) ρ') : PQ X e ρ none xs ρ' := pq_d (pd_n h)
/-- a name whose slot owns a list -/
theorem pq_o (i : Nat) {x : Str} {p : Option Addr} (hi : ρ[i]? = some (.o p (.l xs))) (hN : X.N[i]? = some x := by rfl) (hv : Vis X.env.scope x := by first | exact Or.inl rfl | exact Or.inr (Or.inl rfl) | exact Or.inr (Or.inr rfl)) (hd : (x == ("__debug__" : Str)) = false := by decide)
    (hcd : (x == ("__classdict__" : Str)) = false := by decide) : PQ X (.Name x pos) ρ (some i) xs ρ := PE_imp (pe_var hN hv hd hcd) fun σ H Q ⟨C, F, se, q⟩ => by
  obtain ⟨l, h1, _, h2, _⟩ := se.getO hi
  exact ⟨.ref l, h1, q _ F H (.refl _) se ⟨l, rfl, h1⟩⟩
/-- a name whose slot holds data -/
theorem pd_var (i : Nat) {w : Str} (hi : ρ[i]? = some (.d x)) (hN : X.N[i]? = some w := by rfl) (hv : Vis X.env.scope w := by first | exact Or.inl rfl | exact Or.inr (Or.inl rfl) | exact Or.inr (Or.inr rfl)) (hd : (w == ("__debug__" : Str)) = false := by decide)
    (hcd : (w == ("__classdict__" : Str)) = false := by decide) : PD X (.Name w pos) ρ x ρ := PE_imp (pe_var hN hv hd hcd) fun σ H Q ⟨C, F, se, q⟩ => by
  obtain ⟨v, h1, h2⟩ := se.get hi
  exact ⟨v, h1, q _ F H (.refl _) se h2⟩
theorem pd_of_c {v : V} (h : PE X e (tC v)) (r : ∀ F, Rp X.K F v x) : PD X e ρ x ρ := PE_imp h fun σ H Q ⟨C, F, se, q⟩ => q v F H (.refl _) se (r F)
theorem pd_int {i : Int} {j} : PD X (.Constant (.int i) j pos) ρ (.int i) ρ := pd_of_c pe_int fun _ => .int i
theorem pd_str {i : Str} {j} : PD X (.Constant (.str i) j pos) ρ (.str i) ρ := pd_of_c pe_str fun _ => .str i
theorem pd_bl {i : Bool} {j} : PD X (.Constant (.bool i) j pos) ρ (.bool i) ρ := pd_of_c pe_bl fun _ => .bl i
theorem pd_non {j} : PD X (.Constant .none j pos) ρ .none ρ := pd_of_c pe_non fun _ => .non
theorem pd_gint {w : Str} {i : Int} {t : Tok} (hm : X.mg w = some (.int i t)) (hg : Gl X w := by rfl) (hd : (w == ("__debug__" : Str)) = false := by decide) : PD X (.Name w pos) ρ (.int i) ρ := pd_of_c (pe_glob hg hm (v := .int i) ⟨t, rfl⟩ hd) fun _ => .int i
theorem pd_gstr {w : Str} {i : Str} {t : Tok} (hm : X.mg w = some (.str i t)) (hg : Gl X w := by rfl) (hd : (w == ("__debug__" : Str)) = false := by decide) : PD X (.Name w pos) ρ (.str i) ρ := pd_of_c (pe_glob hg hm (v := .str i) ⟨t, rfl⟩ hd) fun _ => .str i

/-! ### operators -/
/-- an operator's reading takes data to data -/
def OpD (K : PySem.W.Frag) (r : R2) (x y z : PyData) : Prop := ∀ (F H : Hp) (v w : V) (Q : VK), Ex F H → Rp K F v x → Rp K F w y → (∀ u F' H', Gr F H F' H' → Rp K F' u z → Q u H') → r v w H Q
theorem pd_op {op : Operator} {r : R2} (ho : OpR X (binaryOp op) r) (h : OpD X.K r x y z) (ha : PD X a ρ x ρ1) (hb : PD X b ρ1 y ρ2) : PD X (.BinOp a op b pos) ρ z ρ2 := PE_imp (pe_op ho ha hb) fun σ H Q ⟨C, F, e, q⟩ =>
  ⟨C, F, e, fun v F1 H1 x1 e1 r1 => ⟨C, F1, e1, fun w F2 H2 x2 e2 r2 => h F2 H2 v w Q e2.fr.ext (r1.mono x2) r2 fun u F3 H3 g r3 => q u F3 H3 (x1.trans (x2.trans g.f)) (e2.grow g) r3⟩⟩
theorem pd_cmp {op : CmpOp} {r : R2} (ho : OpR X (compareOp op) r) (h : OpD X.K r x y z) (ha : PD X a ρ x ρ1) (hb : PD X b ρ1 y ρ2) (hm : behindInMarks op b = false) : PD X (.Compare a [op] [b] pos) ρ z ρ2 := PE_imp (pe_cmpR ho ha hb hm) fun σ H Q ⟨C, F, e, q⟩ =>
  ⟨C, F, e, fun v F1 H1 x1 e1 r1 => ⟨C, F1, e1, fun w F2 H2 x2 e2 r2 => h F2 H2 v w Q e2.fr.ext (r1.mono x2) r2 fun u F3 H3 g r3 => q u F3 H3 (x1.trans (x2.trans g.f)) (e2.grow g) r3⟩⟩
theorem rp_bool {K : PySem.W.Frag} {F : Hp} {v : V} {k : Bool} (r : Rp K F v (.bool k)) : v = .bl k := by cases r; rfl
theorem rp_int {K : PySem.W.Frag} {F : Hp} {v : V} {k : Int} (r : Rp K F v (.int k)) : v = .int k := by cases r; rfl
theorem rp_str {K : PySem.W.Frag} {F : Hp} {v : V} {k : Str} (r : Rp K F v (.str k)) : v = .str k := by cases r; rfl
theorem rp_non {K : PySem.W.Frag} {F : Hp} {v : V} (r : Rp K F v .none) : v = .non := by cases r; rfl
theorem td_cmp {op : CmpOp} {r : R2} {k : Bool} (ho : OpR X (compareOp op) r) (h : OpD X.K r x y (.bool k)) (ha : PD X a ρ x ρ1) (hb : PD X b ρ1 y ρ2) (hm : behindInMarks op b = false) : TD X (.Compare a [op] [b] pos) ρ k ρ2 := PT_imp (pt_cmpR ho ha hb hm) fun σ H Q ⟨C, F, e, q⟩ =>
  ⟨C, F, e, fun v F1 H1 x1 e1 r1 => ⟨C, F1, e1, fun w F2 H2 x2 e2 r2 => h F2 H2 v w _ e2.fr.ext (r1.mono x2) r2 fun u F3 H3 g r3 => ⟨k, rp_bool r3, q F3 H3 (x1.trans (x2.trans g.f)) (e2.grow g)⟩⟩⟩
section
variable {K : PySem.W.Frag} {i j : Int} {s t : Str}
theorem opd_I0 {g : Int → Int → V} (h : ∀ F, Rp K F (g i j) z) : OpD K (rI0 g) (.int i) (.int j) z := fun F H v w Q e r1 r2 q => ⟨i, j, rp_int r1, rp_int r2, q _ F H (.refl e) (h F)⟩
theorem opd_I {P : Int → Int → Prop} {g : Int → Int → V} (hp : P i j) (h : ∀ F, Rp K F (g i j) z) : OpD K (rI P g) (.int i) (.int j) z := fun F H v w Q e r1 r2 q => ⟨i, j, rp_int r1, rp_int r2, hp, q _ F H (.refl e) (h F)⟩
end
variable {i j : Int} {s t : Str}
theorem pd_add (ha : PD X a ρ (.int i) ρ1) (hb : PD X b ρ1 (.int j) ρ2) : PD X (.BinOp a .Add b pos) ρ (.int (i + j)) ρ2 := pd_op op_add (opd_I0 fun _ => .int _) ha hb
theorem pd_sub (ha : PD X a ρ (.int i) ρ1) (hb : PD X b ρ1 (.int j) ρ2) : PD X (.BinOp a .Sub b pos) ρ (.int (i - j)) ρ2 := pd_op op_sub (opd_I0 fun _ => .int _) ha hb
theorem pd_mul (hc : CMul i j) (ha : PD X a ρ (.int i) ρ1) (hb : PD X b ρ1 (.int j) ρ2) : PD X (.BinOp a .Mult b pos) ρ (.int (i * j)) ρ2 := pd_op op_mul (opd_I hc fun _ => .int _) ha hb
theorem pd_fdiv (hc : CDiv i j) (ha : PD X a ρ (.int i) ρ1) (hb : PD X b ρ1 (.int j) ρ2) : PD X (.BinOp a .FloorDiv b pos) ρ (.int (i / j)) ρ2 := pd_op op_fdiv (opd_I hc fun _ => .int _) ha hb
theorem pd_mod (hc : 0 < j) (ha : PD X a ρ (.int i) ρ1) (hb : PD X b ρ1 (.int j) ρ2) : PD X (.BinOp a .Mod b pos) ρ (.int (i % j)) ρ2 := pd_op op_mod (opd_I hc fun _ => .int _) ha hb
theorem pd_pow (hc : CPow i j) (ha : PD X a ρ (.int i) ρ1) (hb : PD X b ρ1 (.int j) ρ2) : PD X (.BinOp a .Pow b pos) ρ (.int (i ^ j.toNat)) ρ2 := pd_op op_pow (opd_I hc fun _ => .int _) ha hb
theorem pd_addS (hc : s.length + t.length ≤ sizeLine) (ha : PD X a ρ (.str s) ρ1) (hb : PD X b ρ1 (.str t) ρ2) : PD X (.BinOp a .Add b pos) ρ (.str (s ++ t)) ρ2 :=
  pd_op op_add_str (fun F H v w Q e r1 r2 q => ⟨s, t, rp_str r1, rp_str r2, hc, q _ F H (.refl e) (.str _)⟩) ha hb
theorem td_lt (ha : PD X a ρ (.int i) ρ1) (hb : PD X b ρ1 (.int j) ρ2) : TD X (.Compare a [.Lt] [b] pos) ρ (decide (i < j)) ρ2 := td_cmp op_lt (opd_I0 fun _ => .bl _) ha hb (nomark _)
theorem td_le (ha : PD X a ρ (.int i) ρ1) (hb : PD X b ρ1 (.int j) ρ2) : TD X (.Compare a [.LtE] [b] pos) ρ (decide (i ≤ j)) ρ2 := td_cmp op_le (opd_I0 fun _ => .bl _) ha hb (nomark _)
theorem td_gt (ha : PD X a ρ (.int i) ρ1) (hb : PD X b ρ1 (.int j) ρ2) : TD X (.Compare a [.Gt] [b] pos) ρ (decide (j < i)) ρ2 := td_cmp op_gt (opd_I0 fun _ => .bl _) ha hb (nomark _)
theorem td_ge (ha : PD X a ρ (.int i) ρ1) (hb : PD X b ρ1 (.int j) ρ2) : TD X (.Compare a [.GtE] [b] pos) ρ (decide (j ≤ i)) ρ2 := td_cmp op_ge (opd_I0 fun _ => .bl _) ha hb (nomark _)
theorem pd_lt (ha : PD X a ρ (.int i) ρ1) (hb : PD X b ρ1 (.int j) ρ2) : PD X (.Compare a [.Lt] [b] pos) ρ (.bool (decide (i < j))) ρ2 := pd_cmp op_lt (opd_I0 fun _ => .bl _) ha hb (nomark _)
theorem pd_le (ha : PD X a ρ (.int i) ρ1) (hb : PD X b ρ1 (.int j) ρ2) : PD X (.Compare a [.LtE] [b] pos) ρ (.bool (decide (i ≤ j))) ρ2 := pd_cmp op_le (opd_I0 fun _ => .bl _) ha hb (nomark _)
theorem pd_gt (ha : PD X a ρ (.int i) ρ1) (hb : PD X b ρ1 (.int j) ρ2) : PD X (.Compare a [.Gt] [b] pos) ρ (.bool (decide (j < i))) ρ2 := pd_cmp op_gt (opd_I0 fun _ => .bl _) ha hb (nomark _)
theorem pd_ge (ha : PD X a ρ (.int i) ρ1) (hb : PD X b ρ1 (.int j) ρ2) : PD X (.Compare a [.GtE] [b] pos) ρ (.bool (decide (j ≤ i))) ρ2 := pd_cmp op_ge (opd_I0 fun _ => .bl _) ha hb (nomark _)

/-! ### == of data -/
/-- none, bools, ints, texts, lists, tuples of these -/
def flat (d : PyData) : Bool := SeqAt.shaped d
mutual
theorem Rp.dp {K : PySem.W.Frag} {F : Hp} : ∀ (d : PyData) {v : V}, Rp K F v d → d.canLay0 = true → Dp K F v d
  | .none, _, h, _ => by cases h; exact .non
  | .bool b, _, h, _ => by cases h; exact .bl b
  | .int b, _, h, _ => by cases h; exact .int b
  | .str b, _, h, _ => by cases h; exact .str b
  | .list ds, _, h, q => by
    cases h with
    | lst h r => exact .lst h (RpA.dp ds r (by simpa [PyData.canLay0] using q))
  | .tuple ds, _, h, q => by
    cases h with
    | tup h r => exact .tup h (RpA.dp ds r (by simpa [PyData.canLay0] using q))
  | .dict _, _, _, q => by simp [PyData.canLay0] at q
theorem RpA.dp {K : PySem.W.Frag} {F : Hp} : ∀ (ds : List PyData) {v : List V}, RpA K F v ds → PyData.canLayAll0 ds = true → DpAll K F v ds
  | [], _, h, _ => by cases h; exact .nil
  | d :: ds, _, h, q => by
    have q' : d.canLay0 = true ∧ PyData.canLayAll0 ds = true := by simpa [PyData.canLayAll0] using q
    cases h with
    | cons h r => exact .cons (Rp.dp d h q'.1) (RpA.dp ds r q'.2)
end
mutual
theorem dp_mono {K : PySem.W.Frag} {F F' : Hp} (e : Ex F F') : ∀ (d : PyData) {v : V}, Dp K F v d → Dp K F' v d
  | .none, _, h => by cases h; exact .non
  | .bool b, _, h => by cases h; exact .bl b
  | .int b, _, h => by cases h; exact .int b
  | .str b, _, h => by cases h; exact .str b
  | .list ds, _, h => by
    cases h with
    | lst h r => exact .lst (e.l h) (dpa_mono e ds r)
  | .tuple ds, _, h => by
    cases h with
    | tup h r => exact .tup (e.t h) (dpa_mono e ds r)
  | .dict _, _, h => by cases h
theorem dpa_mono {K : PySem.W.Frag} {F F' : Hp} (e : Ex F F') : ∀ (ds : List PyData) {v : List V}, DpAll K F v ds → DpAll K F' v ds
  | [], _, h => by cases h; exact .nil
  | d :: ds, _, h => by
    cases h with
    | cons h r => exact .cons (dp_mono e d h) (dpa_mono e ds r)
end
theorem opd_eqD {K : PySem.W.Frag} (hx : flat x = true) (hy : flat y = true) : OpD K (rEqD K) x y (.bool (PyData.eqv x y)) := fun F H v w Q e r1 r2 q =>
  ⟨x, y, dp_mono e x (Rp.dp x r1 (SeqAt.canLay_of_shaped hx)), dp_mono e y (Rp.dp y r2 (SeqAt.canLay_of_shaped hy)), hx, hy, q _ F H (.refl e) (.bl _)⟩
theorem opd_neD {K : PySem.W.Frag} (hx : flat x = true) (hy : flat y = true) : OpD K (rNeD K) x y (.bool (!PyData.eqv x y)) := fun F H v w Q e r1 r2 q =>
  ⟨x, y, dp_mono e x (Rp.dp x r1 (SeqAt.canLay_of_shaped hx)), dp_mono e y (Rp.dp y r2 (SeqAt.canLay_of_shaped hy)), hx, hy, q _ F H (.refl e) (.bl _)⟩
theorem td_eq (hu : X.A.units + 64 < cLine) (hx : flat x = true) (hy : flat y = true) (ha : PD X a ρ x ρ1) (hb : PD X b ρ1 y ρ2) : TD X (.Compare a [.Eq] [b] pos) ρ (PyData.eqv x y) ρ2 := td_cmp (op_eqD hu) (opd_eqD hx hy) ha hb (nomark _)
theorem td_ne (hu : X.A.units + 64 < cLine) (hx : flat x = true) (hy : flat y = true) (ha : PD X a ρ x ρ1) (hb : PD X b ρ1 y ρ2) : TD X (.Compare a [.NotEq] [b] pos) ρ (!PyData.eqv x y) ρ2 := td_cmp (op_neD hu) (opd_neD hx hy) ha hb (nomark _)
theorem pd_eq (hu : X.A.units + 64 < cLine) (hx : flat x = true) (hy : flat y = true) (ha : PD X a ρ x ρ1) (hb : PD X b ρ1 y ρ2) : PD X (.Compare a [.Eq] [b] pos) ρ (.bool (PyData.eqv x y)) ρ2 := pd_cmp (op_eqD hu) (opd_eqD hx hy) ha hb (nomark _)
theorem pd_ne (hu : X.A.units + 64 < cLine) (hx : flat x = true) (hy : flat y = true) (ha : PD X a ρ x ρ1) (hb : PD X b ρ1 y ρ2) : PD X (.Compare a [.NotEq] [b] pos) ρ (.bool (!PyData.eqv x y)) ρ2 := pd_cmp (op_neD hu) (opd_neD hx hy) ha hb (nomark _)
/-- of ints, of texts -/
theorem td_eqI (ha : PD X a ρ (.int i) ρ1) (hb : PD X b ρ1 (.int j) ρ2) : TD X (.Compare a [.Eq] [b] pos) ρ (decide (i = j)) ρ2 :=
  td_cmp op_eq (fun F H v w Q e r1 r2 q => by rw [rp_int r1, rp_int r2]; exact ⟨rfl, q _ F H (.refl e) (by rw [dec_int, Bool.beq_eq_decide_eq]; exact .bl _)⟩) ha hb (nomark _)
theorem td_neI (ha : PD X a ρ (.int i) ρ1) (hb : PD X b ρ1 (.int j) ρ2) : TD X (.Compare a [.NotEq] [b] pos) ρ (!decide (i = j)) ρ2 :=
  td_cmp op_ne (fun F H v w Q e r1 r2 q => by rw [rp_int r1, rp_int r2]; exact ⟨rfl, q _ F H (.refl e) (by rw [dec_int, Bool.beq_eq_decide_eq]; exact .bl _)⟩) ha hb (nomark _)
theorem td_eqS (ha : PD X a ρ (.str s) ρ1) (hb : PD X b ρ1 (.str t) ρ2) : TD X (.Compare a [.Eq] [b] pos) ρ (decide (s = t)) ρ2 :=
  td_cmp op_eq (fun F H v w Q e r1 r2 q => by rw [rp_str r1, rp_str r2]; exact ⟨rfl, q _ F H (.refl e) (by rw [dec_str, Bool.beq_eq_decide_eq]; exact .bl _)⟩) ha hb (nomark _)
theorem td_neS (ha : PD X a ρ (.str s) ρ1) (hb : PD X b ρ1 (.str t) ρ2) : TD X (.Compare a [.NotEq] [b] pos) ρ (!decide (s = t)) ρ2 :=
  td_cmp op_ne (fun F H v w Q e r1 r2 q => by rw [rp_str r1, rp_str r2]; exact ⟨rfl, q _ F H (.refl e) (by rw [dec_str, Bool.beq_eq_decide_eq]; exact .bl _)⟩) ha hb (nomark _)
theorem pd_eqI (ha : PD X a ρ (.int i) ρ1) (hb : PD X b ρ1 (.int j) ρ2) : PD X (.Compare a [.Eq] [b] pos) ρ (.bool (decide (i = j))) ρ2 :=
  pd_cmp op_eq (fun F H v w Q e r1 r2 q => by rw [rp_int r1, rp_int r2]; exact ⟨rfl, q _ F H (.refl e) (by rw [dec_int, Bool.beq_eq_decide_eq]; exact .bl _)⟩) ha hb (nomark _)
theorem pd_neI (ha : PD X a ρ (.int i) ρ1) (hb : PD X b ρ1 (.int j) ρ2) : PD X (.Compare a [.NotEq] [b] pos) ρ (.bool (!decide (i = j))) ρ2 :=
  pd_cmp op_ne (fun F H v w Q e r1 r2 q => by rw [rp_int r1, rp_int r2]; exact ⟨rfl, q _ F H (.refl e) (by rw [dec_int, Bool.beq_eq_decide_eq]; exact .bl _)⟩) ha hb (nomark _)
theorem pd_eqS (ha : PD X a ρ (.str s) ρ1) (hb : PD X b ρ1 (.str t) ρ2) : PD X (.Compare a [.Eq] [b] pos) ρ (.bool (decide (s = t))) ρ2 :=
  pd_cmp op_eq (fun F H v w Q e r1 r2 q => by rw [rp_str r1, rp_str r2]; exact ⟨rfl, q _ F H (.refl e) (by rw [dec_str, Bool.beq_eq_decide_eq]; exact .bl _)⟩) ha hb (nomark _)
def isNone : PyData → Bool
  | .none => true
  | _ => false
theorem isNone_v {K : PySem.W.Frag} {F : Hp} {v : V} (r : Rp K F v x) : decide (v = V.non) = isNone x := by
  cases r <;> first | rfl | exact decide_eq_false (fun z => nomatch z)
theorem td_isN {k} {p' : Pos} (ha : PD X a ρ x ρ1) : TD X (.Compare a [.Is] [.Constant .none k p'] pos) ρ (isNone x) ρ1 :=
  td_cmp (op_isN) (fun F H v w Q e r1 r2 q => ⟨rp_non r2, q _ F H (.refl e) (by rw [isNone_v r1]; exact .bl _)⟩) ha pd_non (nomark _)
theorem td_notN {k} {p' : Pos} (ha : PD X a ρ x ρ1) : TD X (.Compare a [.IsNot] [.Constant .none k p'] pos) ρ (!isNone x) ρ1 :=
  td_cmp (op_notN) (fun F H v w Q e r1 r2 q => ⟨rp_non r2, q _ F H (.refl e) (by rw [isNone_v r1]; exact .bl _)⟩) ha pd_non (nomark _)
theorem pd_isN {k} {p' : Pos} (ha : PD X a ρ x ρ1) : PD X (.Compare a [.Is] [.Constant .none k p'] pos) ρ (.bool (isNone x)) ρ1 :=
  pd_cmp (op_isN) (fun F H v w Q e r1 r2 q => ⟨rp_non r2, q _ F H (.refl e) (by rw [isNone_v r1]; exact .bl _)⟩) ha pd_non (nomark _)
theorem pd_neg (ha : PD X a ρ (.int i) ρ1) : PD X (.UnaryOp .USub a pos) ρ (.int (-i)) ρ1 := PE_imp (pe_un un_neg ha) fun σ H Q ⟨C, F, e, q⟩ =>
  ⟨C, F, e, fun v F1 H1 x1 e1 r1 => ⟨i, rp_int r1, q _ F1 H1 x1 e1 (.int _)⟩⟩

/-! ### tests -/
variable {k k1 k2 : Bool} {rest : List Expr}
theorem td_val (h : PD X e ρ (.bool k) ρ') (he : ∀ whole, isTrue e X.env whole = (do let v ← whole; standAt e.pos; holding [v] (truthy v)) := by intro _; rfl) : TD X e ρ k ρ' := PT_imp (pt_val h he) fun σ H Q ⟨C, F, se, q⟩ =>
  ⟨C, F, se, fun v F1 H1 x1 e1 r1 => ⟨k, rp_bool r1, q F1 H1 x1 e1⟩⟩
/-- the truth of data -/
def truD : PyData → Bool
  | .none => false
  | .bool b => b
  | .int i => i != 0
  | .str s => s.length != 0
  | .list xs => !xs.isEmpty
  | .tuple xs => !xs.isEmpty
  | .dict kvs => !kvs.isEmpty
theorem td_not (h : TD X a ρ k ρ') : TD X (.UnaryOp .Not a pos) ρ (!k) ρ' := PT_imp (pt_not h) fun σ H Q ⟨C, F, se, q⟩ => ⟨C, F, se, fun F1 H1 x1 e1 => q F1 H1 x1 e1⟩
theorem wd_and1 (h : TD X a ρ k ρ') : WD X (.BoolOp .And [a] pos) ρ k ρ' := pw_and1 h
theorem wd_or1 (h : TD X a ρ k ρ') : WD X (.BoolOp .Or [a] pos) ρ k ρ' := pw_or1 h
theorem wd_and (ha : TD X a ρ k1 ρ1) (hb : k1 = true → WD X (.BoolOp .And (b :: rest) pos) ρ1 k2 ρ1) : WD X (.BoolOp .And (a :: b :: rest) pos) ρ (k1 && k2) ρ1 := by
  cases k1 with
  | true => exact PW_imp (pw_and ha (hb rfl)) fun σ H Q ⟨C, F, se, q⟩ => ⟨C, F, se, fun F1 H1 x1 e1 => by
      refine iteT ?_
      exact ⟨C, F1, e1, fun F2 H2 x2 e2 => q F2 H2 (x1.trans x2) e2⟩⟩
  | false =>
    have hb' : PW X (.BoolOp .And (b :: rest) pos) (fun _ _ _ => False) := ⟨fun _ _ _ _ _ _ _ h => h.elim⟩
    exact PW_imp (pw_and ha hb') fun σ H Q ⟨C, F, se, q⟩ => ⟨C, F, se, fun F1 H1 x1 e1 => by
      refine iteF ?_
      exact q F1 H1 x1 e1⟩
/-- the second changes the slots -/
theorem wd_and_t (ha : TD X a ρ true ρ1) (hb : WD X (.BoolOp .And (b :: rest) pos) ρ1 k2 ρ2) : WD X (.BoolOp .And (a :: b :: rest) pos) ρ k2 ρ2 := PW_imp (pw_and ha hb) fun σ H Q ⟨C, F, se, q⟩ => ⟨C, F, se, fun F1 H1 x1 e1 => by
  refine iteT ?_
  exact ⟨C, F1, e1, fun F2 H2 x2 e2 => q F2 H2 (x1.trans x2) e2⟩⟩
theorem wd_and_f (ha : TD X a ρ false ρ1) : WD X (.BoolOp .And (a :: b :: rest) pos) ρ false ρ1 := by
  have hb' : PW X (.BoolOp .And (b :: rest) pos) (fun _ _ _ => False) := ⟨fun _ _ _ _ _ _ _ h => h.elim⟩
  exact PW_imp (pw_and ha hb') fun σ H Q ⟨C, F, se, q⟩ => ⟨C, F, se, fun F1 H1 x1 e1 => by
    refine iteF ?_
    exact q F1 H1 x1 e1⟩
theorem wd_or_t (ha : TD X a ρ true ρ1) : WD X (.BoolOp .Or (a :: b :: rest) pos) ρ true ρ1 := by
  have hb' : PW X (.BoolOp .Or (b :: rest) pos) (fun _ _ _ => False) := ⟨fun _ _ _ _ _ _ _ h => h.elim⟩
  exact PW_imp (pw_or ha hb') fun σ H Q ⟨C, F, se, q⟩ => ⟨C, F, se, fun F1 H1 x1 e1 => by
    refine iteT ?_
    exact q F1 H1 x1 e1⟩
theorem wd_or_f (ha : TD X a ρ false ρ1) (hb : WD X (.BoolOp .Or (b :: rest) pos) ρ1 k2 ρ2) : WD X (.BoolOp .Or (a :: b :: rest) pos) ρ k2 ρ2 := PW_imp (pw_or ha hb) fun σ H Q ⟨C, F, se, q⟩ => ⟨C, F, se, fun F1 H1 x1 e1 => by
  refine iteF ?_
  exact ⟨C, F1, e1, fun F2 H2 x2 e2 => q F2 H2 (x1.trans x2) e2⟩⟩
theorem wd_or (ha : TD X a ρ k1 ρ1) (hb : k1 = false → WD X (.BoolOp .Or (b :: rest) pos) ρ1 k2 ρ1) : WD X (.BoolOp .Or (a :: b :: rest) pos) ρ (k1 || k2) ρ1 := by
  cases k1 with
  | true => exact wd_or_t ha
  | false => exact wd_or_f ha (hb rfl)
theorem td_w (h : WD X e ρ k ρ') : TD X e ρ k ρ' := h.pt
/-- and, or, not as values -/
theorem pd_not (h : PD X a ρ (.bool k) ρ') : PD X (.UnaryOp .Not a pos) ρ (.bool (!k)) ρ' := PE_imp (pe_not h) fun σ H Q ⟨C, F, se, q⟩ => ⟨C, F, se, fun v F1 H1 x1 e1 r1 => ⟨k, rp_bool r1, q _ F1 H1 x1 e1 (.bl _)⟩⟩
theorem pd_one {op} (h : PD X a ρ x ρ') : PD X (.BoolOp op [a] pos) ρ x ρ' := pe_one h
theorem pd_and_t (ha : PD X a ρ (.bool true) ρ1) (hb : PD X (.BoolOp .And (b :: rest) pos) ρ1 x ρ2) : PD X (.BoolOp .And (a :: b :: rest) pos) ρ x ρ2 := PE_imp (pe_and ha hb) fun σ H Q ⟨C, F, se, q⟩ => ⟨C, F, se, fun v F1 H1 x1 e1 r1 => ⟨true, rp_bool r1, by
  refine iteT ?_
  exact ⟨C, F1, e1, fun w F2 H2 x2 e2 r2 => q w F2 H2 (x1.trans x2) e2 r2⟩⟩⟩
theorem pd_and_f (ha : PD X a ρ (.bool false) ρ1) : PD X (.BoolOp .And (a :: b :: rest) pos) ρ (.bool false) ρ1 := by
  have hb' : PE X (.BoolOp .And (b :: rest) pos) (fun _ _ _ => False) := ⟨fun _ _ _ _ _ _ h => h.elim⟩
  exact PE_imp (pe_and ha hb') fun σ H Q ⟨C, F, se, q⟩ => ⟨C, F, se, fun v F1 H1 x1 e1 r1 => ⟨false, rp_bool r1, by
    refine iteF ?_
    exact q _ F1 H1 x1 e1 (.bl _)⟩⟩
theorem pd_and (ha : PD X a ρ (.bool k1) ρ1) (hb : k1 = true → PD X (.BoolOp .And (b :: rest) pos) ρ1 (.bool k2) ρ1) : PD X (.BoolOp .And (a :: b :: rest) pos) ρ (.bool (k1 && k2)) ρ1 := by
  cases k1 with
  | true => exact pd_and_t ha (hb rfl)
  | false => exact pd_and_f ha
theorem pd_or_f (ha : PD X a ρ (.bool false) ρ1) (hb : PD X (.BoolOp .Or (b :: rest) pos) ρ1 x ρ2) : PD X (.BoolOp .Or (a :: b :: rest) pos) ρ x ρ2 := PE_imp (pe_or ha hb) fun σ H Q ⟨C, F, se, q⟩ => ⟨C, F, se, fun v F1 H1 x1 e1 r1 => ⟨false, rp_bool r1, by
  refine iteF ?_
  exact ⟨C, F1, e1, fun w F2 H2 x2 e2 r2 => q w F2 H2 (x1.trans x2) e2 r2⟩⟩⟩
theorem pd_or_t (ha : PD X a ρ (.bool true) ρ1) : PD X (.BoolOp .Or (a :: b :: rest) pos) ρ (.bool true) ρ1 := by
  have hb' : PE X (.BoolOp .Or (b :: rest) pos) (fun _ _ _ => False) := ⟨fun _ _ _ _ _ _ h => h.elim⟩
  exact PE_imp (pe_or ha hb') fun σ H Q ⟨C, F, se, q⟩ => ⟨C, F, se, fun v F1 H1 x1 e1 r1 => ⟨true, rp_bool r1, by
    refine iteT ?_
    exact q _ F1 H1 x1 e1 (.bl _)⟩⟩
theorem pd_or (ha : PD X a ρ (.bool k1) ρ1) (hb : k1 = false → PD X (.BoolOp .Or (b :: rest) pos) ρ1 (.bool k2) ρ1) : PD X (.BoolOp .Or (a :: b :: rest) pos) ρ (.bool (k1 || k2)) ρ1 := by
  cases k1 with
  | true => exact pd_or_t ha
  | false => exact pd_or_f ha (hb rfl)
theorem pd_if (hc : TD X c ρ k ρ1) (ha : k = true → PD X a ρ1 x ρ2) (hb : k = false → PD X b ρ1 y ρ2) : PD X (.IfExp c a b pos) ρ (if k = true then x else y) ρ2 := by
  cases k with
  | true =>
    have hb' : PE X b (fun _ _ _ => False) := ⟨fun _ _ _ _ _ _ h => h.elim⟩
    exact PE_imp (pe_ifExp hc (ha rfl) hb') fun σ H Q ⟨C, F, se, q⟩ => ⟨C, F, se, fun F1 H1 x1 e1 => by
      refine iteT ?_
      exact ⟨C, F1, e1, fun w F2 H2 x2 e2 r2 => q w F2 H2 (x1.trans x2) e2 (by rw [if_pos rfl]; exact r2)⟩⟩
  | false =>
    have ha' : PE X a (fun _ _ _ => False) := ⟨fun _ _ _ _ _ _ h => h.elim⟩
    exact PE_imp (pe_ifExp hc ha' (hb rfl)) fun σ H Q ⟨C, F, se, q⟩ => ⟨C, F, se, fun F1 H1 x1 e1 => by
      refine iteF ?_
      exact ⟨C, F1, e1, fun w F2 H2 x2 e2 r2 => q w F2 H2 (x1.trans x2) e2 (by rw [if_neg Bool.false_ne_true]; exact r2)⟩⟩
theorem pd_if_t (hc : TD X c ρ true ρ1) (ha : PD X a ρ1 x ρ2) : PD X (.IfExp c a b pos) ρ x ρ2 := by
  have h := pd_if (x := x) (y := x) (b := b) (pos := pos) hc (fun _ => ha) (fun z => nomatch z)
  rw [if_pos rfl] at h; exact h
theorem pd_if_f (hc : TD X c ρ false ρ1) (hb : PD X b ρ1 x ρ2) : PD X (.IfExp c a b pos) ρ x ρ2 := by
  have h := pd_if (x := x) (y := x) (a := a) (pos := pos) hc (fun z => nomatch z) (fun _ => hb)
  rw [if_neg Bool.false_ne_true] at h; exact h

/-! ### displays -/
theorem ad_nil : AD X [] ρ [] ρ := PA_imp pa_nil fun σ H Q ⟨C, F, se, q⟩ => q [] F H (.refl _) se .nil
theorem ad_cons (h : PD X e ρ x ρ1) (hr : AD X es ρ1 xs ρ2) (hs : starEach (e :: es) X.env = (false, eval e X.env) :: starEach es X.env := by rfl) : AD X (e :: es) ρ (x :: xs) ρ2 := PA_imp (pa_cons h hr hs) fun σ H Q ⟨C, F, se, q⟩ =>
  ⟨C, F, se, fun v F1 H1 x1 e1 r1 => ⟨C, F1, e1, fun vs F2 H2 x2 e2 r2 => q (v :: vs) F2 H2 (x1.trans x2) e2 (.cons (r1.mono x2) r2)⟩⟩
theorem line_of {n : Nat} (h : n ≤ 100000) : n ≤ sizeLine := Nat.le_trans h (by decide)
theorem line_lt {n : Nat} (h : n < 100000) : n < sizeLine := Nat.lt_of_lt_of_le h (by decide)
theorem pd_tup {x1} (h : AD X es ρ xs ρ') (hl : xs.length ≤ 100000 := by exact Nat.le_of_ble_eq_true rfl) : PD X (.Tuple es x1 pos) ρ (.tuple xs) ρ' := PE_imp (pe_tup h) fun σ H Q ⟨C, F, se, q⟩ =>
  ⟨C, F, se, fun vs F1 H1 x1 e1 r1 => ⟨by rw [r1.length]; exact line_of hl, fun p hp => q (.ref p) _ _ (x1.trans (.new (e1.fr.ext.none hp))) (e1.grow (.push e1.fr.ext hp)) (.tup (SqT.of upd_same) (r1.mono (.new (e1.fr.ext.none hp))))⟩⟩
/-- a new object is laid -/
theorem SE.lay {K : PySem.W.Frag} {C : Cn} {F H : Hp} {σ : L2.St} {ρ : En} (e : SE K C F H σ ρ) {p : Addr} {o : HO} (hp : H p = none) : SE K C F (upd H p o) σ ρ ∧ F p = none ∧ C.H0 p = none ∧ (∀ j, ¬ Owns σ ρ j p) :=
  ⟨e.grow (.side e.fr.ext hp), e.fr.ext.none hp, e.fr.there p hp, not_owns_new e hp⟩
theorem pn_lst (h : AD X es ρ xs ρ') (hl : xs.length ≤ 100000 := by exact Nat.le_of_ble_eq_true rfl) : PN X (.List es pos) ρ (.l xs) ρ' := PE_imp (pe_lst h) fun σ H Q ⟨C, F, se, q⟩ =>
  ⟨C, F, se, fun vs F1 H1 x1 e1 r1 => ⟨by rw [r1.length]; exact line_of hl, fun p hp => by
    obtain ⟨a, b, c, d⟩ := e1.lay (o := .lst vs) hp
    exact q p F1 _ x1 a b c d ⟨vs, upd_same, r1⟩⟩⟩
theorem pn_dict : PN X (.Dict [] [] pos) ρ (.d []) ρ := PE_imp pe_dnewK fun σ H Q ⟨C, F, se, q⟩ p hp => by
  obtain ⟨a, b, c, d⟩ := se.lay (o := .dK []) hp
  exact q p F _ (.refl _) a b c d ⟨[], upd_same, rfl, .nil⟩
theorem pn_dictT : PN X (.Dict [] [] pos) ρ (.t []) ρ := PE_imp pe_dnewT fun σ H Q ⟨C, F, se, q⟩ p hp => by
  obtain ⟨a, b, c, d⟩ := se.lay (o := .dT []) hp
  exact q p F _ (.refl _) a b c d ⟨[], upd_same, rfl, .nil⟩

/-! ### subscripts -/
theorem atI_rp {K : PySem.W.Frag} {F : Hp} {vs : List V} (r : RpA K F vs xs) (h : atI xs i = some x) : ∃ v, atI vs i = some v ∧ Rp K F v x := by
  unfold atI at h ⊢
  rw [r.length]
  cases q : ixN xs.length i with
  | none => rw [q] at h; cases h
  | some n => rw [q] at h; exact r.get (by simpa using h)
theorem pd_ixL {src : Option Nat} (h : atI xs i = some x) (ok : SrcOk ρ2 src xs) (ha : PQ X a ρ src xs ρ1) (hb : PD X b ρ1 (.int i) ρ2) (hs : PlainIx b := by intro _ _; rfl) : PD X (.Subscript a b pos) ρ x ρ2 := PE_imp (pe_ix ix_list ha hb hs) fun σ H Q ⟨C, F, se, q⟩ =>
  ⟨C, F, se, fun v F1 H1 x1 e1 s1 => ⟨C, F1, e1, fun w F2 H2 x2 e2 r2 => by
    obtain ⟨p, vs, rfl, l, r⟩ := (s1.mono x2).look e2 ok
    obtain ⟨u, h1, h2⟩ := atI_rp r h
    exact ⟨p, vs, i, u, rfl, rp_int r2, l, h1, q u F2 H2 (x1.trans x2) e2 h2⟩⟩⟩
theorem pd_ixT (h : atI xs i = some x) (ha : PD X a ρ (.tuple xs) ρ1) (hb : PD X b ρ1 (.int i) ρ2) (hs : PlainIx b := by intro _ _; rfl) : PD X (.Subscript a b pos) ρ x ρ2 := PE_imp (pe_ix ix_tup ha hb hs) fun σ H Q ⟨C, F, se, q⟩ =>
  ⟨C, F, se, fun v F1 H1 x1 e1 r1 => ⟨C, F1, e1, fun w F2 H2 x2 e2 r2 => by
    cases r1 with
    | tup h1 h2 =>
      obtain ⟨u, h3, h4⟩ := atI_rp h2 h
      exact ⟨_, _, i, u, rfl, rp_int r2, e2.fr.ext.t (x2.t h1), h3, q u F2 H2 (x1.trans x2) e2 (h4.mono x2)⟩⟩⟩
theorem pd_ixS {c : Nat} (hl : s.length ≤ 100000) (h : atI s.cps.toList i = some c) (ha : PD X a ρ (.str s) ρ1) (hb : PD X b ρ1 (.int i) ρ2) (hs : PlainIx b := by intro _ _; rfl) : PD X (.Subscript a b pos) ρ (.str ⟨#[c]⟩) ρ2 := PE_imp (pe_ix ix_str ha hb hs) fun σ H Q ⟨C, F, se, q⟩ =>
  ⟨C, F, se, fun v F1 H1 x1 e1 r1 => ⟨C, F1, e1, fun w F2 H2 x2 e2 r2 => ⟨s, i, c, rp_str r1, rp_int r2, line_of hl, h, q _ F2 H2 (x1.trans x2) e2 (.str _)⟩⟩⟩
end
end G

/-! GStmt: statements, blocks, loops, defs in words of data. -/
namespace G
open PySem PySem.Spec PyProof.Rows L2

/-- an exception's own dict -/
def ExRep (K : PySem.W.Frag) (F H : Hp) (d : Option Addr) (fs : List (Str × PyData)) : Prop :=
  match d with
  | none => fs = []
  | some dd => ∃ vs, H dd = some (.xd vs) ∧ KvA K F vs fs
/-- what is wanted behind a statement -/
structure DE where
  nx : En → Prop := fun _ => False
  rt : PyData → En → Prop := fun _ _ => False
  ex : Value → List (Str × PyData) → En → Prop := fun _ _ _ => False
  bk : En → Prop := fun _ => False
  ct : En → Prop := fun _ => False
  rn : Ct → En → Prop := fun _ _ => False
structure Cov (K : PySem.W.Frag) (W : WX) (C : Cn) (D : DE) (E : Ends) : Prop where
  nx : ∀ ρ' F' H' σ', D.nx ρ' → SE K C F' H' σ' ρ' → E.nx σ' H'
  rt : ∀ x ρ' v F' H' σ', D.rt x ρ' → SE K C F' H' σ' ρ' → Rp K F' v x → E.rt v H'
  ex : ∀ c fs ρ' d F' H' σ', D.ex c fs ρ' → SE K C F' H' σ' ρ' → ExRep K F' H' d fs → W c d σ' H'
  bk : ∀ ρ' F' H' σ', D.bk ρ' → SE K C F' H' σ' ρ' → E.bk σ' H'
  ct : ∀ ρ' F' H' σ', D.ct ρ' → SE K C F' H' σ' ρ' → E.ct σ' H'
  rn : ∀ c ρ' p F' H' σ', D.rn c ρ' → SE K C F' H' σ' ρ' → F' p = none → C.H0 p = none → Own1 K F' H' p c → E.rt (.ref p) H'
def tD (K : PySem.W.Frag) (W : WX) (ρ : En) (D : DE) : TS := fun E σ H => ∃ C F, SE K C F H σ ρ ∧ Cov K W C D E
abbrev SD (X : Cx) (W : WX) (st : Stmt) (ρ : En) (D : DE) : Prop := PS X st (tD X.K W ρ D)
abbrev BD (X : Cx) (W : WX) (sts : List Stmt) (ρ : En) (D : DE) : Prop := PSs X sts (tD X.K W ρ D)

section
variable {X : Cx} {W : WX} {e a b c : Expr} {es : List Expr} {pos pos' : Pos} {ρ ρ' ρ1 ρ2 ρ3 : En} {x y z : PyData} {xs ys : List PyData} {st : Stmt} {rest A B body : List Stmt} {D : DE} {k : Bool} {i j : Nat} {w : Str}

/-! ### blocks -/
theorem bd_nil (h : D.nx ρ) : BD X W [] ρ D := PSs_imp pss_nil fun E σ H ⟨C, F, se, cv⟩ => cv.nx ρ F H σ h se
theorem bd_cut (M : En → Prop) (h1 : SD X W st ρ { D with nx := M }) (h2 : ∀ ρ1, M ρ1 → BD X W rest ρ1 D) : BD X W (st :: rest) ρ D := by
  have h2' : PSs X rest (fun E σ H => ∃ p : { ρ1 // M ρ1 }, tD X.K W p.1 D E σ H) := PSs_ex fun p => h2 p.1 p.2
  exact PSs_imp (pss_cons h1 h2') fun E σ H ⟨C, F, se, cv⟩ => ⟨C, F, se, ⟨fun ρ' F' H' σ' m s => ⟨⟨ρ', m⟩, C, F', s, cv⟩, cv.rt, cv.ex, cv.bk, cv.ct, cv.rn⟩⟩
theorem bd_seq (h1 : SD X W st ρ { D with nx := fun r => r = ρ1 }) (h2 : BD X W rest ρ1 D) : BD X W (st :: rest) ρ D := bd_cut (fun r => r = ρ1) h1 fun _ q => by subst q; exact h2
theorem bd_one (h1 : SD X W st ρ D) : BD X W [st] ρ D := pss_one h1
/-- less is known ahead, more is wanted behind -/
theorem tD_le {K : PySem.W.Frag} {E : Ends} {σ : L2.St} {H : Hp} (h : Le ρ' ρ) (t : tD K W ρ D E σ H) : tD K W ρ' D E σ H := by
  obtain ⟨C, F, se, cv⟩ := t
  exact ⟨C, F, se.le h, cv⟩
theorem bd_le (h : Le ρ' ρ) (b : BD X W rest ρ' D) : BD X W rest ρ D := PSs_imp b fun E σ H t => tD_le h t
theorem sd_le (h : Le ρ' ρ) (b : SD X W st ρ' D) : SD X W st ρ D := PS_imp b fun E σ H t => tD_le h t
structure DE.Le (D D' : DE) : Prop where
  nx : ∀ ρ, D.nx ρ → D'.nx ρ := by intro _ h; exact h
  rt : ∀ x ρ, D.rt x ρ → D'.rt x ρ := by intro _ _ h; exact h
  ex : ∀ c f ρ, D.ex c f ρ → D'.ex c f ρ := by intro _ _ _ h; exact h
  bk : ∀ ρ, D.bk ρ → D'.bk ρ := by intro _ h; exact h
  ct : ∀ ρ, D.ct ρ → D'.ct ρ := by intro _ h; exact h
  rn : ∀ c ρ, D.rn c ρ → D'.rn c ρ := by intro _ _ h; exact h
theorem Cov.le {K : PySem.W.Frag} {C : Cn} {E : Ends} {D D' : DE} (l : D.Le D') (h : Cov K W C D' E) : Cov K W C D E :=
  ⟨fun r _ _ _ q => h.nx r _ _ _ (l.nx r q), fun x r _ _ _ _ q => h.rt x r _ _ _ _ (l.rt x r q), fun c f r _ _ _ _ q => h.ex c f r _ _ _ _ (l.ex c f r q), fun r _ _ _ q => h.bk r _ _ _ (l.bk r q), fun r _ _ _ q => h.ct r _ _ _ (l.ct r q), fun c r p _ _ _ q => h.rn c r p _ _ _ (l.rn c r q)⟩
theorem sd_post {D' : DE} (l : D.Le D') (h : SD X W st ρ D) : SD X W st ρ D' := PS_imp h fun E σ H ⟨C, F, se, cv⟩ => ⟨C, F, se, cv.le l⟩
theorem bd_post {D' : DE} (l : D.Le D') (h : BD X W rest ρ D) : BD X W rest ρ D' := PSs_imp h fun E σ H ⟨C, F, se, cv⟩ => ⟨C, F, se, cv.le l⟩

/-! ### small statements -/
theorem sd_pass (h : D.nx ρ) : SD X W (.Pass pos) ρ D := PS_imp ps_pass fun E σ H ⟨C, F, se, cv⟩ => cv.nx ρ F H σ h se
theorem sd_break (h : D.bk ρ) : SD X W (.Break pos) ρ D := PS_imp ps_break fun E σ H ⟨C, F, se, cv⟩ => cv.bk ρ F H σ h se
theorem sd_cont (h : D.ct ρ) : SD X W (.Continue pos) ρ D := PS_imp ps_continue fun E σ H ⟨C, F, se, cv⟩ => cv.ct ρ F H σ h se
theorem sd_ret (he : PD X e ρ x ρ1) (h : D.rt x ρ1) : SD X W (.Return (some e) pos) ρ D := PS_imp (ps_ret he) fun E σ H ⟨C, F, se, cv⟩ => ⟨C, F, se, fun v F1 H1 _ e1 r1 => cv.rt x ρ1 v F1 H1 σ h e1 r1⟩
/-- a new object is given back -/
theorem sd_retO {c : Ct} (he : PN X e ρ c ρ1) (h : D.rn c ρ1) : SD X W (.Return (some e) pos) ρ D := PS_imp (ps_ret he) fun E σ H ⟨C, F, se, cv⟩ => ⟨C, F, se, fun p F1 H1 _ e1 fp h0 _ r1 => cv.rn c ρ1 p F1 H1 σ h e1 fp h0 r1⟩
/-- .. that a name holds -/
theorem sd_retV {c : Ct} (i : Nat) (h0 : ρ[i]? = some (.o none c)) (h : D.rn c ρ) (hN : X.N[i]? = some w := by rfl) (hv : Vis X.env.scope w := by first | exact Or.inl rfl | exact Or.inr (Or.inl rfl) | exact Or.inr (Or.inr rfl)) (hd : (w == ("__debug__" : Str)) = false := by decide) (hcd : (w == ("__classdict__" : Str)) = false := by decide) : SD X W (.Return (some (.Name w pos')) pos) ρ D :=
  PS_imp (ps_ret (pe_var hN hv hd hcd)) fun E σ H ⟨C, F, se, cv⟩ => by
    obtain ⟨l, a1, _, a3, a4⟩ := se.getO h0
    exact ⟨.ref l, a1, cv.rn c ρ l F H σ h se (se.own i l a4).1 (se.fresh i l c h0 a1) a3⟩
/-- a list that a name owns becomes data, as it is read -/
theorem pd_thaw {xs : List PyData} (i : Nat) (h0 : ρ[i]? = some (.ol xs)) (hN : X.N[i]? = some w := by rfl) (hv : Vis X.env.scope w := by first | exact Or.inl rfl | exact Or.inr (Or.inl rfl) | exact Or.inr (Or.inr rfl)) (hd : (w == ("__debug__" : Str)) = false := by decide) (hcd : (w == ("__classdict__" : Str)) = false := by decide) : PD X (.Name w pos) ρ (.list xs) (ρ.set i (.d (.list xs))) :=
  PE_imp (pe_var hN hv hd hcd) fun σ H Q ⟨C, F, se, q⟩ => by
    obtain ⟨l, a1, _, ⟨vs, a3, a5⟩, a4⟩ := se.getO h0
    have fl := (se.own i l a4).1
    have r : Rp X.K (L2.upd F l (.lst vs)) (.ref l) (.list xs) := .lst (SqL.of upd_same) (a5.mono (.new fl))
    exact ⟨.ref l, a1, q _ _ H (.new fl) (se.thaw h0 a1 a3 r) r⟩
/-- .. ahead of a statement -/
theorem bd_thaw {xs : List PyData} (i : Nat) (h0 : ρ[i]? = some (.ol xs)) (h : BD X W rest (ρ.set i (.d (.list xs))) D) : BD X W rest ρ D := PSs_imp h fun E σ H ⟨C, F, se, cv⟩ => by
    obtain ⟨l, a1, _, ⟨vs, a3, a5⟩, a4⟩ := se.getO h0
    have fl := (se.own i l a4).1
    have r : Rp X.K (L2.upd F l (.lst vs)) (.ref l) (.list xs) := .lst (SqL.of upd_same) (a5.mono (.new fl))
    exact ⟨C, _, se.thaw h0 a1 a3 r, cv⟩
theorem sd_retN (h : D.rt .none ρ) : SD X W (.Return none pos) ρ D := PS_imp ps_retN fun E σ H ⟨C, F, se, cv⟩ => cv.rt _ ρ _ F H σ h se .non
theorem sd_expr (he : PD X e ρ x ρ1) (h : D.nx ρ1) (hs : swapsWith e none pos.line X.env = pure false := by rfl) : SD X W (.Expr e pos) ρ D := PS_imp (ps_expr he hs) fun E σ H ⟨C, F, se, cv⟩ => ⟨C, F, se, fun v F1 H1 _ e1 r1 => cv.nx ρ1 F1 H1 σ h e1⟩
theorem sd_if (hc : TD X c ρ k ρ1) (ha : k = true → BD X W A ρ1 D) (hb : k = false → BD X W B ρ1 D) : SD X W (.If c A B pos) ρ D := by
  have nv : ∀ sts, PSs X sts (fun _ _ _ => False) := fun sts => ⟨fun _ _ _ _ _ _ h => h.elim⟩
  cases k with
  | true => exact PS_imp (ps_if hc (ha rfl) (nv B)) fun E σ H ⟨C, F, se, cv⟩ => ⟨C, F, se, fun F1 H1 x1 e1 => iteT ⟨C, F1, e1, cv⟩⟩
  | false => exact PS_imp (ps_if hc (nv A) (hb rfl)) fun E σ H ⟨C, F, se, cv⟩ => ⟨C, F, se, fun F1 H1 x1 e1 => iteF ⟨C, F1, e1, cv⟩⟩
/-- a guard: it ends -/
theorem bd_guard (hc : TD X c ρ k ρ1) (ha : k = true → BD X W A ρ1 { D with nx := fun _ => False }) (hb : k = false → BD X W rest ρ1 D) : BD X W (.If c A [] pos :: rest) ρ D :=
  bd_cut (fun r => r = ρ1 ∧ k = false) (sd_if hc (fun q => bd_post (D := { D with nx := fun _ => False }) { nx := fun _ z => False.elim z } (ha q)) fun q => bd_nil ⟨rfl, q⟩) fun _ q => by
    obtain ⟨rfl, q⟩ := q
    exact hb q
/-- x = e, e data -/
theorem sd_set (i : Nat) (he : PD X e ρ x ρ1) (h : D.nx (ρ1.set i (.d x))) (hN : X.N.Nodup) (hi : X.N[i]? = some w := by rfl) (hx : Loc X.env.scope w := by first | exact Or.inl rfl | exact Or.inr rfl)
    (hf : X.fn w = true ∨ X.env.scope.names.lookup w = some .local := by first | exact .inl rfl | exact .inr rfl) (hs : swapsWith e (some (.Name w pos')) pos.line X.env = pure false := by rfl) : SD X W (.Assign [.Name w pos'] e pos) ρ D :=
  PS_imp (ps_set hN hi hx he hs hf) fun E σ H ⟨C, F, se, cv⟩ => ⟨C, F, se, fun v F1 H1 _ e1 r1 => cv.nx _ F1 H1 _ h (e1.setD r1)⟩
/-- x = e, e a new object that the body goes on changing -/
theorem sd_setN (i : Nat) {s : Ct} (he : PN X e ρ s ρ1) (h : D.nx (ρ1.set i (.o none s))) (hN : X.N.Nodup) (hi : X.N[i]? = some w := by rfl) (hx : Loc X.env.scope w := by first | exact Or.inl rfl | exact Or.inr rfl)
    (hf : X.fn w = true ∨ X.env.scope.names.lookup w = some .local := by first | exact .inl rfl | exact .inr rfl) (hs : swapsWith e (some (.Name w pos')) pos.line X.env = pure false := by rfl) : SD X W (.Assign [.Name w pos'] e pos) ρ D :=
  PS_imp (ps_set hN hi hx he hs hf) fun E σ H ⟨C, F, se, cv⟩ => ⟨C, F, se, fun p F1 H1 _ e1 fp h0 no r1 => cv.nx _ F1 H1 _ h (e1.setOwn fp h0 no r1)⟩
/-- found.append(e) -/
theorem sd_append (i : Nat) {o : Str} {p1 p2 p3 : Pos} {pa pb : Option Addr} (h0 : ρ[i]? = some (.o pa (.l ys))) (he : PD X e ρ x ρ1) (h1 : ρ1[i]? = some (.o pb (.l xs))) (hl : xs.length < 100000) (h : D.nx (ρ1.set i (.o pb (.l (xs ++ [x])))))
    (hN : X.N[i]? = some o := by rfl) (hv : Vis X.env.scope o := by first | exact Or.inl rfl | exact Or.inr (Or.inl rfl) | exact Or.inr (Or.inr rfl)) (hd : (o == ("__debug__" : Str)) = false := by decide) (hcd : (o == ("__classdict__" : Str)) = false := by decide)
    (hbase : attributeBase (.Name o p1) "append" X.env (eval (.Name o p1) X.env) = eval (.Name o p1) X.env := by rfl)
    (hfew : ((backTo p3 (starEach [e] X.env)).all (fun x => !x.1) && (backToKw p3 (keywordEach [] X.env)).all (fun x => x.1.isSome)
      && decide ([e].length + ([] : List Keyword).length + (if ([] : List Keyword).isEmpty then 0 else 1) < 30)) = true := by rfl)
    (hline : (p2.endLine == p3.line) = true := by rfl) (hs : starEach [e] X.env = (false, eval e X.env) :: starEach [] X.env := by rfl)
    (hsw : swapsWith (.Call (.Attribute (.Name o p1) "append" p2) [e] [] p3) none pos.line X.env = pure false := by rfl) :
    SD X W (.Expr (.Call (.Attribute (.Name o p1) "append" p2) [e] [] p3) pos) ρ D := by
  refine PS_imp (ps_expr (pe_bm PySem.F.plainAttrs_list PySem.F.slot_list_append PySem.F.type_list_append mt_append (pe_var hN hv hd hcd) (pa_cons he pa_nil hs) hbase hfew hline hs (by rfl)) hsw) fun E σ H ⟨C, F, se, cv⟩ => ?_
  obtain ⟨l, a1, _, ⟨vs, a2, a3⟩, a4⟩ := se.getO h0
  refine ⟨.ref l, a1, .inl ⟨rfl, vs, SqL.of a2⟩, C, F, se, fun v F1 H1 x1 e1 r1 => ?_⟩
  obtain ⟨l', b1, _, ⟨us, b2, b3⟩, b4⟩ := e1.getO h1
  rw [a1] at b1
  cases b1
  refine ⟨l, us, v, rfl, rfl, b2, by rw [b3.length]; exact line_lt hl, cv.nx _ F1 _ _ h ?_⟩
  exact e1.wr h1 a1 ⟨us ++ [v], upd_same, b3.append (.cons r1 .nil)⟩
/-- xs[j] = e, xs a name that owns its list -/
theorem sd_setix (i : Nat) {o : Str} {p1 p2 : Pos} {pa pb : Option Addr} {ix : Int} {n : Nat} (he : PD X e ρ x ρ1) (h0 : ρ1[i]? = some (.o pa (.l ys))) (hix : PD X a ρ1 (.int ix) ρ2) (h1 : ρ2[i]? = some (.o pb (.l xs))) (hn : ixN xs.length ix = some n) (h : D.nx (ρ2.set i (.o pb (.l (xs.set n x)))))
    (hN : X.N[i]? = some o := by rfl) (hv : Vis X.env.scope o := by first | exact Or.inl rfl | exact Or.inr (Or.inl rfl) | exact Or.inr (Or.inr rfl)) (hd : (o == ("__debug__" : Str)) = false := by decide) (hcd : (o == ("__classdict__" : Str)) = false := by decide)
    (hg : ∀ v, assign (.Subscript (.Name o p1) a p2) X.env v = (do
      let ov ← holding [v] (eval (.Name o p1) X.env)
      let iv ← holding [v, ov] (eval a X.env)
      standAt p2
      holding [v, ov, iv] (setItem ov iv v)
      release [v, ov, iv] []) := by intro _; rfl)
    (hs : swapsWithSole [.Subscript (.Name o p1) a p2] e pos.line X.env = pure false := by rfl) (hw : swappedStores [.Subscript (.Name o p1) a p2] e X.env = pure none := by rfl)
    (hm : (assignEach [.Subscript (.Name o p1) a p2] X.env).map (·.2) = [assign (.Subscript (.Name o p1) a p2) X.env] := by rfl) :
    SD X W (.Assign [.Subscript (.Name o p1) a p2] e pos) ρ D := by
  refine PS_imp (ps_asg he (pg_sub (pe_var hN hv hd hcd) hix set_list hg) hs hw hm) fun E σ H ⟨C, F, se, cv⟩ => ?_
  refine ⟨C, F, se, fun v F1 H1 x1 e1 r1 => ?_⟩
  obtain ⟨l, a1, _, ⟨vs, a2, a3⟩, a4⟩ := e1.getO h0
  refine ⟨.ref l, a1, C, F1, e1, fun u F2 H2 x2 e2 r2 => ?_⟩
  obtain ⟨l', b1, _, ⟨us, b2, b3⟩, b4⟩ := e2.getO h1
  rw [a1] at b1
  cases b1
  refine ⟨l, us, ix, n, rfl, rp_int r2, b2, by rw [b3.length]; exact hn, cv.nx _ F2 _ _ h ?_⟩
  exact e2.wr h1 a1 ⟨us.set n v, upd_same, b3.set n (r1.mono x2)⟩

/-! ### targets -/
def tG (K : PySem.W.Frag) (d : PyData) (ρ ρ' : En) : TG := fun v σ H Q => ∃ C F, SE K C F H σ ρ ∧ Rp K F v d ∧ ∀ σ' F' H', Ex F F' → SE K C F' H' σ' ρ' → Q σ' H'
abbrev GD (X : Cx) (tg : Expr) (d : PyData) (ρ ρ' : En) : Prop := PG X tg (tG X.K d ρ ρ')
def tGs (K : PySem.W.Frag) (ds : List PyData) (ρ ρ' : En) : TGs := fun vs σ H Q => ∃ C F, SE K C F H σ ρ ∧ RpA K F vs ds ∧ ∀ σ' F' H', Ex F F' → SE K C F' H' σ' ρ' → Q σ' H'
abbrev GsD (X : Cx) (tg : List Expr) (d : List PyData) (ρ ρ' : En) : Prop := PGs X tg (tGs X.K d ρ ρ')
theorem PG_imp {t t' : TG} (h : PG X e t) (i : ∀ v σ H Q, t' v σ H Q → t v σ H Q) : PG X e t' := ⟨fun pins s σ H v u Q I r q => h.run pins s σ H v u Q I r (i _ _ _ _ q)⟩
theorem PGs_imp {t t' : TGs} (h : PGs X es t) (i : ∀ v σ H Q, t' v σ H Q → t v σ H Q) : PGs X es t' := ⟨fun pins s σ H v u Q I r q => h.run pins s σ H v u Q I r (i _ _ _ _ q)⟩
theorem PG_ex {ι : Type} {t : ι → TG} (h : ∀ i, PG X e (t i)) : PG X e (fun v σ H Q => ∃ i, t i v σ H Q) := ⟨fun pins s σ H v u Q I r ⟨i, q⟩ => (h i).run pins s σ H v u Q I r q⟩
theorem gd_name (i : Nat) (hN : X.N.Nodup) (hi : X.N[i]? = some w := by rfl) (hx : Loc X.env.scope w := by first | exact Or.inl rfl | exact Or.inr rfl)
    (hf : X.fn w = true ∨ X.env.scope.names.lookup w = some .local := by first | exact .inl rfl | exact .inr rfl) : GD X (.Name w pos) x ρ (ρ.set i (.d x)) := PG_imp (pg_name hN hi hx hf) fun v σ H Q ⟨C, F, se, r, q⟩ => q _ F H (.refl _) (se.setD r)
theorem gsd_nil : GsD X [] [] ρ ρ := PGs_imp pgs_nil fun v σ H Q ⟨C, F, se, r, q⟩ => ⟨by cases r; rfl, q _ F H (.refl _) se⟩
theorem gsd_cons (h : GD X e x ρ ρ1) (hr : GsD X es xs ρ1 ρ2) (hs : (assignEach (e :: es) X.env).map (·.2) = assign e X.env :: (assignEach es X.env).map (·.2) := by rfl) : GsD X (e :: es) (x :: xs) ρ ρ2 := PGs_imp (pgs_cons h hr hs) fun v σ H Q ⟨C, F, se, r, q⟩ => by
  cases r with
  | cons r1 r2 => exact ⟨_, _, rfl, C, F, se, r1, fun σ1 F1 H1 x1 e1 => ⟨C, F1, e1, r2.mono x1, fun σ2 F2 H2 x2 e2 => q σ2 F2 H2 (x1.trans x2) e2⟩⟩
theorem gd_tup {kk : Nat} (hc : X.calm = true) (h : GsD X es xs ρ ρ') (hn : (assignEach es X.env).length = xs.length := by rfl) (hst : (assignEach es X.env).findIdx? (·.1) = none := by rfl) : GD X (.Tuple es kk pos) (.tuple xs) ρ ρ' := PG_imp (pg_tup hc h hn hst) fun v σ H Q ⟨C, F, se, r, q⟩ => by
  cases r with
  | tup h1 h2 => exact ⟨_, _, rfl, se.fr.ext.t h1, h2.length, C, F, se, h2, q⟩
/-- a, b = e -/
theorem sd_unpack (he : PD X e ρ x ρ1) (hg : GD X a x ρ1 ρ2) (h : D.nx ρ2) (hs : swapsWithSole [a] e pos.line X.env = pure false := by rfl) (hw : swappedStores [a] e X.env = pure none := by rfl)
    (h1 : (assignEach [a] X.env).map (·.2) = [assign a X.env] := by rfl) : SD X W (.Assign [a] e pos) ρ D := PS_imp (ps_asg he hg hs hw h1) fun E σ H ⟨C, F, se, cv⟩ =>
  ⟨C, F, se, fun v F1 H1 _ e1 r1 => ⟨C, F1, e1, r1, fun σ2 F2 H2 _ e2 => cv.nx ρ2 F2 H2 σ2 h e2⟩⟩

/-! ### what is walked -/
/-- the items that come, as long as ok holds of the slots -/
structure Wk (K : PySem.W.Frag) (F0 : Hp) (σ0 : L2.St) (J : It) (its : List PyData) (ok : En → Prop) (own : Option Nat) : Prop where
  go : ∀ i C F H σ ρ, Ex F0 F → SE K C F H σ ρ → ok ρ → (∀ j, own = some j → σ[j]? = σ0[j]?) → i < its.length → J.go i H
  stop : ∀ C F H σ ρ, Ex F0 F → SE K C F H σ ρ → ok ρ → (∀ j, own = some j → σ[j]? = σ0[j]?) → J.stop its.length H
  yld : ∀ i C F H σ ρ v H1, Ex F0 F → SE K C F H σ ρ → ok ρ → (∀ j, own = some j → σ[j]? = σ0[j]?) → i < its.length → J.yld i H v H1 → ∃ d F1, its[i]? = some d ∧ Ex F F1 ∧ SE K C F1 H1 σ ρ ∧ Rp K F1 v d
def tI (K : PySem.W.Frag) (ρ : En) (its : List PyData) (ok : En → Prop) (own : Option Nat) (ρ' : En) : TI := fun σ H R => ∃ C F, SE K C F H σ ρ ∧ ∀ J F' H', Ex F F' → SE K C F' H' σ ρ' → Wk K F' σ J its ok own → R J H'
abbrev ID (X : Cx) (tg iter : Expr) (ρ : En) (its : List PyData) (ok : En → Prop) (own : Option Nat) (ρ' : En) : Prop := PI X tg iter (tI X.K ρ its ok own ρ')
theorem PI_imp {tg : Expr} {t t' : TI} (h : PI X tg e t) (i : ∀ σ H Q, t' σ H Q → t σ H Q) : PI X tg e t' := ⟨fun pins s σ H Q I q => h.run pins s σ H Q I (i _ _ _ q)⟩
theorem id_list {tg : Expr} {src : Option Nat} (h : PQ X e ρ src xs ρ') (ok' : SrcOk ρ' src xs) : ID X tg e ρ xs (fun r => SrcOk r src xs) src ρ' := PI_imp (pi_list h) fun σ H R ⟨C, F, se, q⟩ => by
  refine ⟨C, F, se, fun v F1 H1 x1 e1 s1 => ?_⟩
  obtain ⟨a, vs, rfl, l1, r1⟩ := s1.look e1 ok'
  have key : ∀ C F2 H2 σ2 ρ2, Ex F1 F2 → SE X.K C F2 H2 σ2 ρ2 → SrcOk ρ2 src xs → (∀ j, src = some j → σ2[j]? = σ[j]?) → ∃ us, SqL X.K H2 a us ∧ RpA X.K F2 us xs := fun C F2 H2 σ2 ρ2 x2 e2 ok2 hs => by
    have s2 : SrcV X.K F2 σ2 src (.ref a) xs := by
      cases src with
      | none => exact SrcV.mono (σ := σ) (src := none) x2 s1
      | some j =>
        obtain ⟨b, eb, hb⟩ := s1
        cases eb
        exact ⟨a, rfl, by rw [hs j rfl]; exact hb⟩
    obtain ⟨b, us, eb, l2, r2⟩ := s2.look e2 ok2
    cases eb
    exact ⟨us, l2, r2⟩
  refine ⟨a, rfl, ⟨vs, l1⟩, q _ F1 H1 x1 e1 ⟨fun i C F2 H2 σ2 ρ2 x2 e2 ok2 hs hi => ?_, fun C F2 H2 σ2 ρ2 x2 e2 ok2 hs => ?_, fun i C F2 H2 σ2 ρ2 v H3 x2 e2 ok2 hs hi y => ?_⟩⟩
  · obtain ⟨us, l2, r2⟩ := key C F2 H2 σ2 ρ2 x2 e2 ok2 hs
    have hl := r2.length
    exact walk_list.goes i H2 (by rw [hl]; exact hi) l2
  · obtain ⟨us, l2, r2⟩ := key C F2 H2 σ2 ρ2 x2 e2 ok2 hs
    rw [← r2.length]
    exact walk_list.stops H2 l2
  · obtain ⟨us, l2, r2⟩ := key C F2 H2 σ2 ρ2 x2 e2 ok2 hs
    obtain ⟨rfl, h3⟩ := walk_list.yields i H2 v H3 (by rw [r2.length]; exact hi) l2 y
    obtain ⟨d, h4, h5⟩ := r2.getV h3
    exact ⟨d, F2, h4, .refl _, e2, h5⟩
theorem id_tup {tg : Expr} (h : PD X e ρ (.tuple xs) ρ') : ID X tg e ρ xs (fun _ => True) none ρ' := PI_imp (pi_tup h) fun σ H R ⟨C, F, se, q⟩ => by
  refine ⟨C, F, se, fun v F1 H1 x1 e1 r1 => ?_⟩
  cases r1 with
  | @tup a vs _ h1 h2 =>
    refine ⟨a, rfl, ⟨vs, e1.fr.ext.t h1⟩, q _ F1 H1 x1 e1 ⟨fun i C F2 H2 σ2 ρ2 x2 e2 ok2 hs hi => ?_, fun C F2 H2 σ2 ρ2 x2 e2 ok2 hs => ?_, fun i C F2 H2 σ2 ρ2 v H3 x2 e2 ok2 hs hi y => ?_⟩⟩
    · exact walk_tup.goes i H2 (by rw [h2.length]; exact hi) (e2.fr.ext.t (x2.t h1))
    · rw [← h2.length]; exact walk_tup.stops H2 (e2.fr.ext.t (x2.t h1))
    · obtain ⟨rfl, h3⟩ := walk_tup.yields i H2 v H3 (by rw [h2.length]; exact hi) (e2.fr.ext.t (x2.t h1)) y
      obtain ⟨d, h4, h5⟩ := h2.getV h3
      exact ⟨d, F2, h4, .refl _, e2, h5.mono x2⟩
/-- the ints of a range -/
def rgD (lo : Int) (n : Nat) : List PyData := (List.range n).map fun i => .int (lo + (i : Nat))
theorem rgD_get {lo : Int} {n i : Nat} (h : i < n) : (rgD lo n)[i]? = some (.int (lo + (i : Nat))) := by
  unfold rgD; rw [List.getElem?_map, List.getElem?_range h]; rfl
theorem rgD_len {lo : Int} {n : Nat} : (rgD lo n).length = n := by unfold rgD; rw [List.length_map, List.length_range]
theorem wk_range {K : PySem.W.Frag} {F0 : Hp} {σ0 : L2.St} {lo : Int} {n : Nat} : Wk K F0 σ0 (Itr lo n) (rgD lo n) (fun _ => True) none :=
  ⟨fun i _ F H σ ρ _ _ _ _ hi => walk_range.goes i H (by rw [rgD_len] at hi; exact hi) trivial, fun _ F H σ ρ _ _ _ _ => by rw [rgD_len]; exact walk_range.stops H trivial, fun i _ F H σ ρ v H1 _ e _ _ hi y => by
    rw [rgD_len] at hi
    obtain ⟨rfl, rfl⟩ := walk_range.yields i H v H1 hi trivial y
    exact ⟨_, F, rgD_get hi, .refl _, e, .int _⟩⟩
theorem id_range1 {tg : Expr} {p : Pos} {n : Int} (hm : X.mg "range" = none) (h : PD X a ρ (.int n) ρ') (h1 : -(2 ^ 62) ≤ n) (h2 : n < 2 ^ 62) (hg : Gl X "range" := by rfl) (hs : starEach [a] X.env = [(false, eval a X.env)] := by rfl) : ID X tg (.Call (.Name "range" p) [a] [] pos) ρ (rgD 0 n.toNat) (fun _ => True) none ρ' :=
  PI_imp (pi_range1 hg hm (ad_cons h ad_nil hs) hs) fun σ H R ⟨C, F, se, q⟩ => ⟨C, F, se, fun vs F1 H1 x1 e1 r1 => by
    cases r1 with
    | cons a1 a2 =>
      cases a2
      rw [rp_int a1]
      exact ⟨n, rfl, h1, h2, q _ F1 H1 x1 e1 wk_range⟩⟩
theorem id_range2 {tg : Expr} {p : Pos} {m n : Int} (hm : X.mg "range" = none) (ha : PD X a ρ (.int m) ρ1) (hb : PD X b ρ1 (.int n) ρ') (h1 : -(2 ^ 62) ≤ m) (h2 : m < 2 ^ 62) (h3 : -(2 ^ 62) ≤ n) (h4 : n < 2 ^ 62) (hg : Gl X "range" := by rfl)
    (hs : starEach [a, b] X.env = [(false, eval a X.env), (false, eval b X.env)] := by rfl) (hs2 : starEach [b] X.env = [(false, eval b X.env)] := by rfl) : ID X tg (.Call (.Name "range" p) [a, b] [] pos) ρ (rgD m (n - m).toNat) (fun _ => True) none ρ' :=
  PI_imp (pi_range2 hg hm (ad_cons ha (ad_cons hb ad_nil hs2) (by rw [hs, hs2])) hs hs2) fun σ H R ⟨C, F, se, q⟩ => ⟨C, F, se, fun vs F1 H1 x1 e1 r1 => by
    cases r1 with
    | cons a1 a2 =>
      cases a2 with
      | cons a2 a3 =>
        cases a3
        rw [rp_int a1, rp_int a2]
        exact ⟨m, n, rfl, ⟨h1, h2, h3, h4⟩, q _ F1 H1 x1 e1 wk_range⟩⟩
/-- a text, sign by sign -/
def sgD (s : Str) : List PyData := s.cps.toList.map fun c => .str ⟨#[c]⟩
theorem id_str {tg : Expr} {s : Str} (h : PD X e ρ (.str s) ρ') : ID X tg e ρ (sgD s) (fun _ => True) none ρ' := PI_imp (pi_str h) fun σ H R ⟨C, F, se, q⟩ => ⟨C, F, se, fun v F1 H1 x1 e1 r1 => by
  have hl : (sgD s).length = s.cps.size := by unfold sgD; rw [List.length_map, Array.length_toList]
  refine ⟨s, rp_str r1, q _ F1 H1 x1 e1 ⟨fun i C F2 H2 σ2 ρ2 x2 e2 ok2 hs hi => ?_, fun C F2 H2 σ2 ρ2 x2 e2 ok2 hs => ?_, fun i C F2 H2 σ2 ρ2 v H3 x2 e2 ok2 hs hi y => ?_⟩⟩
  · exact walk_str.goes i H2 (by rw [hl] at hi; exact hi) trivial
  · rw [hl]; exact walk_str.stops H2 trivial
  · obtain ⟨rfl, c, h3, rfl⟩ := walk_str.yields i H2 v H3 (by rw [hl] at hi; exact hi) trivial y
    exact ⟨.str ⟨#[c]⟩, F2, by unfold sgD; rw [List.getElem?_map, Array.getElem?_toList, h3]; rfl, .refl _, e2, .str _⟩⟩
end
end G

/-! GLoop: loops and comprehensions in words of data. -/
namespace G
open PySem PySem.Spec PyProof.Rows L2

/-- P, of less -/
def Lee (P : En → Prop) (ρ : En) : Prop := ∃ ρ', Le ρ' ρ ∧ P ρ'
theorem Lee.of {P : En → Prop} {ρ : En} (h : P ρ) : Lee P ρ := ⟨ρ, Le.refl ρ, h⟩
section
variable {X : Cx} {W : WX} {e a b c tg iter elt : Expr} {es : List Expr} {pos pos' : Pos} {ρ ρ' ρ1 ρ2 ρ3 : En} {x y z : PyData} {xs ys its : List PyData} {st : Stmt} {rest A B body : List Stmt} {D : DE} {k : Bool} {i j : Nat} {w : Str} {ok : En → Prop}

theorem sd_for (I : Nat → En → Prop) (hp : PassesOwn (model X.prog X.w) X.A X.env X.xe) (hc : X.calm = true) (hi : ID X tg iter ρ its ok none ρ1) (h0 : Lee (I 0) ρ1) (hok : ∀ i ρ', I i ρ' → ok ρ')
    (hs : ∀ i d ρ', its[i]? = some d → I i ρ' → ∃ ρ2, GD X tg d ρ' ρ2 ∧ BD X W body ρ2 { D with nx := Lee (I (i + 1)), ct := Lee (I (i + 1)), bk := D.nx }) (hd : ∀ ρ', I its.length ρ' → D.nx ρ')
    (hf : ∀ x, foldedSetIterable iter X.env x = pure x := by intro _; rfl) : SD X W (.For tg iter body [] pos) ρ D := by
  have cho : ∀ p : { p : Nat × PyData × En // its[p.1]? = some p.2.1 ∧ I p.1 p.2.2 }, ∃ ρ2, GD X tg p.1.2.1 p.1.2.2 ρ2 ∧ BD X W body ρ2 { D with nx := Lee (I (p.1.1 + 1)), ct := Lee (I (p.1.1 + 1)), bk := D.nx } := fun p => hs _ _ _ p.2.1 p.2.2
  have hg := PG_ex fun p => (Classical.choose_spec (cho p)).1
  have hb := PSs_ex fun p => (Classical.choose_spec (cho p)).2
  refine PS_imp (ps_for hp hc hi hg hb hf) fun E σ H ⟨C, F, se, cv⟩ => ?_
  refine ⟨C, F, se, fun J F1 H1 x1 e1 wk => ?_⟩
  refine ⟨fun i m σ H => m = its.length - i ∧ i ≤ its.length ∧ ∃ ρ' F2, Ex F1 F2 ∧ SE X.K C F2 H σ ρ' ∧ I i ρ', ⟨its.length, by simp, Nat.zero_le _, ?_⟩, ?_⟩
  · obtain ⟨ρ', l, i0⟩ := h0
    exact ⟨ρ', F1, .refl _, e1.le l, i0⟩
  rintro i m σ2 H2 ⟨rfl, hle, ρ', F2, x2, e2, i2⟩
  by_cases hlt : i < its.length
  · refine .inr ⟨wk.go i _ F2 H2 σ2 ρ' x2 e2 (hok i ρ' i2) (fun j z => nomatch z) hlt, fun σ' H' => ∃ ρ' F2, Ex F1 F2 ∧ SE X.K C F2 H' σ' ρ' ∧ I (i + 1) ρ', fun σ' H' q => ⟨its.length - (i + 1), by omega, rfl, hlt, q⟩, fun v H3 y => ?_⟩
    obtain ⟨d, F3, hd3, x3, e3, r3⟩ := wk.yld i _ F2 H2 σ2 ρ' v H3 x2 e2 (hok i ρ' i2) (fun j z => nomatch z) hlt y
    refine ⟨⟨(i, d, ρ'), hd3, i2⟩, ⟨F1, C.H0, C.M⟩, F3, ⟨⟨e3.fr.ext, x2.trans x3, e3.fr.h0, e3.fr.there, ?_, e3.fr.mM⟩, e3.len, e3.ok, e3.sep, e3.own, e3.fresh⟩, r3, fun σ4 F4 H4 x4 e4 => ?_⟩
    · intro a ha z
      refine e3.fr.new a ha ?_
      cases q : C.F0 a with
      | none => rfl
      | some o =>
        have z' : F1 a = none := z
        rw [show F1 a = some o from e1.fr.f0 a o q] at z'; cases z'
    · refine ⟨⟨(i, d, ρ'), hd3, i2⟩, ⟨F1, C.H0, C.M⟩, F4, e4, ?_⟩
      have again : ∀ ρ5 F5 H5 σ5, Lee (I (i + 1)) ρ5 → SE X.K ⟨F1, C.H0, C.M⟩ F5 H5 σ5 ρ5 → ∃ ρ' F2, Ex F1 F2 ∧ SE X.K C F2 H5 σ5 ρ' ∧ I (i + 1) ρ' := fun ρ5 F5 H5 σ5 ⟨ρ6, l, i6⟩ e5 => ⟨ρ6, F5, e5.fr.f0, (e5.unbase e1.fr).le l, i6⟩
      exact ⟨fun r F5 H5 σ5 q e5 => again r F5 H5 σ5 q e5, fun x r v F5 H5 σ5 q e5 r5 => cv.rt x r v F5 H5 σ5 q (e5.unbase e1.fr) r5, fun c f r d F5 H5 σ5 q e5 r5 => cv.ex c f r d F5 H5 σ5 q (e5.unbase e1.fr) r5,
        fun r F5 H5 σ5 q e5 => cv.nx r F5 H5 σ5 q (e5.unbase e1.fr), fun r F5 H5 σ5 q e5 => again r F5 H5 σ5 q e5, fun c r p F5 H5 σ5 q e5 f5 h5 o5 => cv.rn c r p F5 H5 σ5 q (e5.unbase e1.fr) f5 h5 o5⟩
  · have q : i = its.length := by omega
    subst q
    exact .inl ⟨wk.stop _ F2 H2 σ2 ρ' x2 e2 (hok _ ρ' i2) (fun j z => nomatch z), cv.nx ρ' F2 H2 σ2 (hd ρ' i2) e2⟩

/-- while: I by the slots, a measure of the state it stands for -/
theorem sd_while {S : Type} (sh : S → En) (P : S → Prop) (μ : S → Nat) (cnd : S → Bool) (hp : PassesOwn (model X.prog X.w) X.A X.env X.xe) (h0 : ∃ s, Le (sh s) ρ ∧ P s)
    (hc : ∀ s, P s → TD X c (sh s) (cnd s) (sh s)) (hb : ∀ s, P s → cnd s = true → BD X W body (sh s) { D with nx := Lee (fun r => ∃ s', r = sh s' ∧ P s' ∧ μ s' < μ s), ct := Lee (fun r => ∃ s', r = sh s' ∧ P s' ∧ μ s' < μ s), bk := D.nx })
    (hd : ∀ s, P s → cnd s = false → D.nx (sh s)) : SD X W (.While c body [] pos) ρ D := by
  have hc' := PT_ex fun p : { s // P s } => hc p.1 p.2
  have hb' := PSs_ex fun p : { s // P s ∧ cnd s = true } => hb p.1 p.2.1 p.2.2
  refine PS_imp (ps_while hp hc' hb') fun E σ H ⟨C, F, se, cv⟩ => ?_
  obtain ⟨s0, l0, p0⟩ := h0
  refine ⟨fun m σ H => ∃ s F, P s ∧ m = μ s ∧ SE X.K C F H σ (sh s), ⟨μ s0, s0, F, p0, rfl, se.le l0⟩, ?_⟩
  rintro m σ1 H1 ⟨s, F1, p, rfl, e1⟩
  refine ⟨⟨s, p⟩, C, F1, e1, fun F2 H2 x2 e2 => ?_⟩
  cases q : cnd s with
  | true =>
    refine iteT ⟨fun σ' H' => ∃ s' F', P s' ∧ μ s' < μ s ∧ SE X.K C F' H' σ' (sh s'), fun σ' H' ⟨s', F', a, b, d⟩ => ⟨μ s', b, s', F', a, rfl, d⟩, ⟨s, p, q⟩, C, F2, e2, ?_⟩
    have again : ∀ ρ5 F5 H5 σ5, Lee (fun r => ∃ s', r = sh s' ∧ P s' ∧ μ s' < μ s) ρ5 → SE X.K C F5 H5 σ5 ρ5 → ∃ s' F', P s' ∧ μ s' < μ s ∧ SE X.K C F' H5 σ5 (sh s') := fun ρ5 F5 H5 σ5 ⟨ρ6, l, s', h1, h2, h3⟩ e5 => ⟨s', F5, h2, h3, by rw [← h1]; exact e5.le l⟩
    exact ⟨again, cv.rt, cv.ex, cv.nx, again, cv.rn⟩
  | false => exact iteF (cv.nx _ F2 H2 σ1 (hd s p q) e2)

/-! ### comprehensions -/
def wipeE (ρ : En) : List Nat → En
  | [] => ρ
  | v :: vs => (wipeE ρ vs).set v .un
theorem wipeE_len (ρ : En) : ∀ vs, (wipeE ρ vs).length = ρ.length
  | [] => rfl
  | v :: vs => by unfold wipeE; rw [List.length_set, wipeE_len ρ vs]
theorem wipe_out {σ : L2.St} {i : Nat} : ∀ {vs : List Nat}, i ∉ vs → (wipe σ vs)[i]? = σ[i]?
  | [], _ => rfl
  | v :: vs, h => by
    unfold wipe
    rw [List.getElem?_set_ne (fun q => h (by rw [q]; exact List.mem_cons_self)), wipe_out (fun q => h (List.mem_cons_of_mem _ q))]
theorem wipeE_out {ρ : En} {i : Nat} : ∀ {vs : List Nat}, i ∉ vs → (wipeE ρ vs)[i]? = ρ[i]?
  | [], _ => rfl
  | v :: vs, h => by
    unfold wipeE
    rw [List.getElem?_set_ne (fun q => h (by rw [q]; exact List.mem_cons_self)), wipeE_out (fun q => h (List.mem_cons_of_mem _ q))]
theorem wipeE_in {ρ : En} {i : Nat} {s : Sl} : ∀ {vs : List Nat}, i ∈ vs → (wipeE ρ vs)[i]? = some s → s = .un
  | v :: vs, h, q => by
    unfold wipeE at q
    by_cases hv : v = i
    · subst hv; exact (set_at q).1.symm
    · rw [List.getElem?_set_ne hv] at q
      rcases List.mem_cons.mp h with z | z
      · exact absurd z.symm hv
      · exact wipeE_in z q
theorem wipeE_le (ρ : En) : ∀ vs, Le (wipeE ρ vs) ρ
  | [] => Le.refl ρ
  | v :: vs => by
    have ih := wipeE_le ρ vs
    unfold wipeE
    have key : ∀ {r r' : En} (v : Nat), Le r r' → Le (r.set v .un) r' := fun {r r'} v h => by
      induction h generalizing v with
      | nil => exact .nil
      | un _ ih => cases v with
        | zero => rename_i h'; exact .un h'
        | succ v => exact .un (ih v)
      | eq _ ih => cases v with
        | zero => rename_i h'; exact .un h'
        | succ v => exact .eq (ih v)
    exact key v ih
theorem SE.wipe {K : PySem.W.Frag} {C : Cn} {F H : Hp} {σ : L2.St} (e : SE K C F H σ ρ) (vs : List Nat) : SE K C F H (L2.wipe σ vs) (wipeE ρ vs) :=
  (e.le (wipeE_le ρ vs)).sub (wipe_length σ vs) fun i s hs hn => by
    by_cases q : i ∈ vs
    · exact absurd (wipeE_in q hs) hn
    · exact wipe_out q
/-- the slots at vs as they were -/
def restE (ρ1 ρ' : En) : List Nat → En
  | [] => ρ'
  | v :: vs => (restE ρ1 ρ' vs).set v (match ρ1[v]? with | some (.d x) => .d x | _ => .un)
/-- back from a block -/
theorem SE.back {K : PySem.W.Frag} {C : Cn} {F1 H1 F H : Hp} {σ : L2.St} {vs : List Nat} (e1 : SE K C F1 H1 σ ρ1) (x : Ex F1 F) (e : SE K C F H (L2.wipe σ vs) (wipeE ρ' vs)) : SE K C F H σ (restE ρ1 ρ' vs) ∧ ∀ j a, Owns σ (restE ρ1 ρ' vs) j a → Owns (L2.wipe σ vs) (wipeE ρ' vs) j a := by
  have key : ∀ (ws : List Nat), (∀ v ∈ ws, v ∈ vs) → ∀ (i : Nat) (s : Sl), (restE ρ1 (wipeE ρ' vs) ws)[i]? = some s → (i ∈ ws ∧ ((∃ y, s = .d y ∧ ρ1[i]? = some (.d y)) ∨ s = .un)) ∨ (wipeE ρ' vs)[i]? = some s := by
    intro ws
    induction ws with
    | nil => intro _ i s h; exact .inr h
    | cons v ws ih =>
      intro hv i s h
      unfold restE at h
      by_cases q : v = i
      · subst q
        refine .inl ⟨List.mem_cons_self, ?_⟩
        have z := (set_at h).1
        cases r : ρ1[v]? with
        | none => rw [r] at z; exact .inr z.symm
        | some t =>
          cases t with
          | un => rw [r] at z; exact .inr z.symm
          | d y => rw [r] at z; exact .inl ⟨y, z.symm, rfl⟩
          | o p c => rw [r] at z; exact .inr z.symm
      · rw [List.getElem?_set_ne q] at h
        rcases ih (fun u hu => hv u (List.mem_cons_of_mem _ hu)) i s h with ⟨a, b⟩ | a
        · exact .inl ⟨List.mem_cons_of_mem _ a, b⟩
        · exact .inr a
  have lenR : ∀ (ρ'' : En) (ws : List Nat), (restE ρ1 ρ'' ws).length = ρ''.length := fun ρ'' ws => by
    induction ws with
    | nil => rfl
    | cons v ws ih => unfold restE; rw [List.length_set, ih]
  have conv : ∀ j a, Owns σ (restE ρ1 (wipeE ρ' vs) vs) j a → Owns (L2.wipe σ vs) (wipeE ρ' vs) j a := fun j a ⟨h1, t, h2, h3⟩ => by
    rcases key vs (fun _ h => h) j t h2 with ⟨_, ⟨y, rfl, _⟩ | rfl⟩ | z
    · cases h3
    · cases h3
    · refine ⟨?_, t, z, h3⟩
      rw [wipe_out (fun q => by rw [wipeE_in q z] at h3; cases h3)]
      exact h1
  have main : SE K C F H σ (restE ρ1 (wipeE ρ' vs) vs) := by
    refine ⟨e.fr, ?_, fun i s hs => ?_, fun j k a hj hk => e.sep j k a (conv j a hj) (conv k a hk), fun j a hj => e.own j a (conv j a hj), fun j a c h1 h2 => ?_⟩
    · rw [lenR, ← e.len, wipe_length]
    · rcases key vs (fun _ h => h) i s hs with ⟨_, ⟨y, rfl, h1⟩ | rfl⟩ | z
      · obtain ⟨v, a, b⟩ := e1.get h1
        exact ⟨v, by rw [a]; rfl, b.mono x⟩
      · trivial
      · by_cases q : i ∈ vs
        · rw [wipeE_in q z]; trivial
        · have := e.ok i s z
          rw [wipe_out q] at this
          exact this
    · have ow := conv j a ⟨h2, _, h1, rfl⟩
      rcases key vs (fun _ h => h) j _ h1 with ⟨_, ⟨y, q, _⟩ | q⟩ | z
      · cases q
      · cases q
      · exact e.fresh j a c z ow.1
  -- restE over the wiped slots is restE over the slots
  have same : ∀ (ws : List Nat) (v : Nat), v ∈ ws → ∀ ρ'' : En, restE ρ1 (ρ''.set v .un) ws = restE ρ1 ρ'' ws := by
    intro ws
    induction ws with
    | nil => intro v hv; cases hv
    | cons u ws ih =>
      intro v hv ρ''
      unfold restE
      by_cases q : v ∈ ws
      · rw [ih v q]
      · have hvu : v = u := by
          rcases List.mem_cons.mp hv with z | z
          · exact z
          · exact absurd z q
        subst hvu
        have comm : ∀ (zs : List Nat), v ∉ zs → restE ρ1 (ρ''.set v .un) zs = (restE ρ1 ρ'' zs).set v .un := by
          intro zs
          induction zs with
          | nil => intro _; rfl
          | cons t zs ih2 =>
            intro ht
            unfold restE
            rw [ih2 (fun z => ht (List.mem_cons_of_mem _ z)), List.set_comm _ _ (fun z => ht (by rw [z]; exact List.mem_cons_self))]
        rw [comm ws q, List.set_set]
  have all : ∀ ws, (∀ v ∈ ws, v ∈ vs) → restE ρ1 (wipeE ρ' ws) vs = restE ρ1 ρ' vs := by
    intro ws
    induction ws with
    | nil => intro _; rfl
    | cons v ws ih =>
      intro h
      unfold wipeE
      rw [same vs v (h v List.mem_cons_self), ih (fun u hu => h u (List.mem_cons_of_mem _ hu))]
  rw [all vs (fun _ h => h)] at main conv
  exact ⟨main, conv⟩

/-- a target within a block: only the slots at vs are set -/
def tGv (K : PySem.W.Frag) (vs : List Nat) (d : PyData) (ρ ρ' : En) : TG := fun v σ H Q => ∃ C F, SE K C F H σ ρ ∧ Rp K F v d ∧ ∀ σ' F' H', L2.wipe σ' vs = L2.wipe σ vs → Ex F F' → SE K C F' H' σ' ρ' → Q σ' H'
abbrev GV (X : Cx) (vs : List Nat) (tg : Expr) (d : PyData) (ρ ρ' : En) : Prop := PG X tg (tGv X.K vs d ρ ρ')
def tGsv (K : PySem.W.Frag) (vs : List Nat) (ds : List PyData) (ρ ρ' : En) : TGs := fun us σ H Q => ∃ C F, SE K C F H σ ρ ∧ RpA K F us ds ∧ ∀ σ' F' H', L2.wipe σ' vs = L2.wipe σ vs → Ex F F' → SE K C F' H' σ' ρ' → Q σ' H'
abbrev GsV (X : Cx) (vs : List Nat) (tg : List Expr) (d : List PyData) (ρ ρ' : En) : Prop := PGs X tg (tGsv X.K vs d ρ ρ')
theorem wipe_set {σ : L2.St} {v : Nat} {o : Option V} : ∀ {vs : List Nat}, v ∈ vs → L2.wipe (σ.set v o) vs = L2.wipe σ vs
  | u :: vs, h => by
    unfold L2.wipe
    by_cases q : v ∈ vs
    · rw [wipe_set q]
    · have e : v = u := by
        rcases List.mem_cons.mp h with z | z
        · exact z
        · exact absurd z q
      subst e
      have comm : ∀ zs : List Nat, v ∉ zs → L2.wipe (σ.set v o) zs = (L2.wipe σ zs).set v o := by
        intro zs
        induction zs with
        | nil => intro _; rfl
        | cons t zs ih =>
          intro ht
          unfold L2.wipe
          rw [ih (fun z => ht (List.mem_cons_of_mem _ z)), List.set_comm _ _ (fun z => ht (by rw [z]; exact List.mem_cons_self))]
      rw [comm vs q, List.set_set]
theorem wipe_wipe {σ : L2.St} {vs : List Nat} : L2.wipe (L2.wipe σ vs) vs = L2.wipe σ vs := by
  have key : ∀ ws : List Nat, (∀ v ∈ ws, v ∈ vs) → L2.wipe (L2.wipe σ ws) vs = L2.wipe σ vs := by
    intro ws
    induction ws with
    | nil => intro _; rfl
    | cons v ws ih =>
      intro h
      show L2.wipe ((L2.wipe σ ws).set v none) vs = _
      rw [wipe_set (h v List.mem_cons_self), ih fun u hu => h u (List.mem_cons_of_mem _ hu)]
  exact key vs fun _ h => h
theorem gv_name {vs : List Nat} (i : Nat) (hv : i ∈ vs) (hN : X.N.Nodup) (hi : X.N[i]? = some w := by rfl) (hx : Loc X.env.scope w := by first | exact Or.inl rfl | exact Or.inr rfl)
    (hf : X.fn w = true ∨ X.env.scope.names.lookup w = some .local := by first | exact .inl rfl | exact .inr rfl) : GV X vs (.Name w pos) x ρ (ρ.set i (.d x)) := PG_imp (pg_name hN hi hx hf) fun v σ H Q ⟨C, F, se, r, q⟩ => q _ F H (wipe_set hv) (.refl _) (se.setD r)
theorem gsv_nil {vs : List Nat} : GsV X vs [] [] ρ ρ := PGs_imp pgs_nil fun v σ H Q ⟨C, F, se, r, q⟩ => ⟨by cases r; rfl, q _ F H rfl (.refl _) se⟩
theorem gsv_cons {vs : List Nat} (h : GV X vs e x ρ ρ1) (hr : GsV X vs es xs ρ1 ρ2) (hs : (assignEach (e :: es) X.env).map (·.2) = assign e X.env :: (assignEach es X.env).map (·.2) := by rfl) : GsV X vs (e :: es) (x :: xs) ρ ρ2 := PGs_imp (pgs_cons h hr hs) fun v σ H Q ⟨C, F, se, r, q⟩ => by
  cases r with
  | cons r1 r2 => exact ⟨_, _, rfl, C, F, se, r1, fun σ1 F1 H1 w1 x1 e1 => ⟨C, F1, e1, r2.mono x1, fun σ2 F2 H2 w2 x2 e2 => q σ2 F2 H2 (w2.trans w1) (x1.trans x2) e2⟩⟩
theorem gv_tup {vs : List Nat} {kk : Nat} (hc : X.calm = true) (h : GsV X vs es xs ρ ρ') (hn : (assignEach es X.env).length = xs.length := by rfl) (hst : (assignEach es X.env).findIdx? (·.1) = none := by rfl) : GV X vs (.Tuple es kk pos) (.tuple xs) ρ ρ' := PG_imp (pg_tup hc h hn hst) fun v σ H Q ⟨C, F, se, r, q⟩ => by
  cases r with
  | tup h1 h2 => exact ⟨_, _, rfl, se.fr.ext.t h1, h2.length, C, F, se, h2, q⟩


/-! ### the list that is being built: an object that no slot names -/
def Cn.pin (C : Cn) (F : Hp) (p : Addr) (o : HO) : Cn := ⟨F, upd C.H0 p o, C.M⟩
theorem SE.pin {K : PySem.W.Frag} {C : Cn} {F H : Hp} {σ : L2.St} {p : Addr} {o : HO} (e : SE K C F H σ ρ) (h0 : C.H0 p = none) (hp : H p = some o) (no : ∀ j, ¬ Owns σ ρ j p) : SE K (C.pin F p o) F H σ ρ := by
  refine ⟨⟨e.fr.ext, .refl _, fun a u hu m => ?_, fun a ha => ?_, fun _ _ z => z, fun a ha => ?_⟩, e.len, e.ok, e.sep, fun j a hj => ?_, fun j a c h1 h2 => ?_⟩
  · have hu' : upd C.H0 p o a = some u := hu
    by_cases q : a = p
    · rw [q, upd_same] at hu'; rw [q, hp]; exact hu'
    · rw [upd_ne q] at hu'; exact e.fr.h0 a u hu' m
  · show upd C.H0 p o a = none
    rw [upd_ne (fun q => by rw [q, hp] at ha; cases ha)]; exact e.fr.there a ha
  · show upd C.H0 p o a ≠ none
    by_cases q : a = p
    · rw [q, upd_same]; exact fun z => nomatch z
    · rw [upd_ne q]; exact e.fr.mM a ha
  · obtain ⟨x, y, z⟩ := e.own j a hj
    refine ⟨x, y, ?_⟩
    show upd C.H0 p o a = none ∨ a ∈ C.M
    rw [upd_ne (fun q => no j (by rw [← q]; exact hj))]; exact z
  · show upd C.H0 p o a = none
    rw [upd_ne (fun q => no j (by rw [← q]; exact ⟨h2, _, h1, rfl⟩))]; exact e.fresh j a c h1 h2
theorem SE.unpin {K : PySem.W.Frag} {C : Cn} {F1 H1 F H : Hp} {σ : L2.St} {p : Addr} {o : HO} (f : Fr C F1 H1) (h0 : C.H0 p = none) (f1 : F1 p = none) (e : SE K (C.pin F1 p o) F H σ ρ) : SE K C F H σ ρ ∧ F p = none ∧ H p = some o ∧ (∀ j, ¬ Owns σ ρ j p) := by
  have here : (C.pin F1 p o).H0 p = some o := upd_same
  have nm : p ∉ C.M := fun m => f.mM p m h0
  have nes : ∀ a, upd C.H0 p o a = none → a ≠ p ∧ C.H0 a = none := fun a ha => by
    by_cases q : a = p
    · rw [q, upd_same] at ha; cases ha
    · rw [upd_ne q] at ha; exact ⟨q, ha⟩
  refine ⟨⟨⟨e.fr.ext, f.f0.trans e.fr.f0, fun a u hu m => ?_, fun a ha => (nes a (e.fr.there a ha)).2, fun a ha z => ?_, f.mM⟩, e.len, e.ok, e.sep, fun j a hj => ?_, fun j a c h1 h2 => (nes a (e.fresh j a c h1 h2)).2⟩, ?_, ?_, ?_⟩
  · refine e.fr.h0 a u ?_ m
    show upd C.H0 p o a = some u
    rw [upd_ne (fun q => by rw [q, h0] at hu; cases hu)]; exact hu
  · refine e.fr.new a ?_ (f.new a ha z)
    show upd C.H0 p o a ≠ none
    rw [upd_ne (fun q => ha (by rw [q]; exact h0))]; exact ha
  · obtain ⟨x, y, z⟩ := e.own j a hj
    refine ⟨x, y, ?_⟩
    rcases z with z | z
    · exact .inl (nes a z).2
    · exact .inr z
  · exact e.fr.new p (ne_none here) f1
  · exact e.fr.h0 p o here nm
  · intro j hj
    rcases (e.own j p hj).2.2 with z | z
    · rw [here] at z; cases z
    · exact nm z
/-- it is changed -/
theorem SE.wrx {K : PySem.W.Frag} {C : Cn} {F H : Hp} {σ : L2.St} {p : Addr} {o o' : HO} (e : SE K C F H σ ρ) (h0 : C.H0 p = none) (fp : F p = none) (hp : H p = some o') (no : ∀ j, ¬ Owns σ ρ j p) : SE K C F (upd H p o) σ ρ := by
  refine ⟨⟨fun a u h => ?_, e.fr.f0, fun a u hu m => ?_, fun a ha => ?_, e.fr.new, e.fr.mM⟩, e.len, fun i s hs => ?_, e.sep, fun j a hj => ?_, e.fresh⟩
  · rw [upd_ne (fun q => by rw [q, fp] at h; cases h)]; exact e.fr.ext a u h
  · rw [upd_ne (fun q => by rw [q, h0] at hu; cases hu)]; exact e.fr.h0 a u hu m
  · by_cases q : a = p
    · rw [q, upd_same] at ha; cases ha
    · rw [upd_ne q] at ha; exact e.fr.there a ha
  · refine (e.ok i s hs).grow (.refl _) fun l u hl ho hu => ?_
    rw [upd_ne (fun q => no i (by rw [← q]; exact ⟨join_some hl, s, hs, ho⟩))]; exact hu
  · obtain ⟨x, y, z⟩ := e.own j a hj
    refine ⟨x, ?_, z⟩
    rw [upd_ne (fun q => no j (by rw [← q]; exact hj))]; exact y

/-! ### comprehensions, turn by turn -/
/-- X, in the block of a comprehension -/
def IsBlk (X : Cx) (scope : Scope) (Y : Cx) : Prop := ∃ (s : Shared) (H : Hp) (C : Addr) (cl : List (Str × Addr)) (fp : List Addr), Y = X.blk s H scope (compEnvC scope cl C X.env) fp
abbrev TsD (X : Cx) (es : List Expr) (ρ : En) (k : Bool) (ρ' : En) : Prop := PTs X es (tT X.K ρ k ρ')
theorem tsd_nil : TsD X [] ρ true ρ := ⟨fun pins s σ H Q I ⟨C, F, se, q⟩ => (pts_nil (X := X)).run pins s σ H Q I (q F H (.refl _) se)⟩
theorem tsd_one (h : TD X c ρ k ρ') : TsD X [c] ρ k ρ' := pts_one h
structure Turn where
  ρt : En
  ρm : En
  k : Bool
  y : PyData
  ρe : En
structure TurnOk (X : Cx) (scope : Scope) (vs : List Nat) (tg elt : Expr) (ifs : List Expr) (d : PyData) (ρ ρ' : En) (T : Turn) : Prop where
  tg : ∀ Y, IsBlk X scope Y → GV Y vs tg d (wipeE ρ vs) T.ρt
  ts : ∀ Y, IsBlk X scope Y → PTs Y ifs (tT X.K T.ρt T.k T.ρm)
  el : ∀ Y, IsBlk X scope Y → T.k = true → PE Y elt (tP X.K T.ρm T.y T.ρe)
  nx : Le (wipeE ρ' vs) (if T.k = true then T.ρe else T.ρm)
/-- what the turns leave -/
def outs (T : Nat → Turn) : Nat → List PyData
  | 0 => []
  | n + 1 => if (T n).k = true then outs T n ++ [(T n).y] else outs T n
theorem outs_len (T : Nat → Turn) : ∀ n, (outs T n).length ≤ n
  | 0 => Nat.le_refl _
  | n + 1 => by
    unfold outs
    have := outs_len T n
    split
    · rw [List.length_append, List.length_singleton]; omega
    · omega
theorem SE.wiped {K : PySem.W.Frag} {C : Cn} {F H : Hp} {σ : L2.St} {vs : List Nat} (e : SE K C F H σ (wipeE ρ vs)) : SE K C F H (L2.wipe σ vs) (wipeE ρ vs) :=
  e.sub (wipe_length σ vs) fun i s hs hn => by
    by_cases q : i ∈ vs
    · exact absurd (wipeE_in q hs) hn
    · exact wipe_out q
section
variable {scope : Scope} {own : List (Str × Nat)} {ifs : List Expr} {src : Option Nat} {T : Nat → Turn} {I : Nat → En}
/-- what is read of a list comprehension: any reader of targets, tests and elements that the turns give -/
theorem lc_read {Q : VK} {σ : L2.St} {H : Hp} {Kk : PySem.W.Frag} {C : Cn} {F : Hp} {J : It} {vs : List Nat} {g : TG} {tt : TT} {te : TE} (se : SE Kk C F H σ ρ1) (wk : Wk Kk F σ J its ok src) (h0 : Le (wipeE (I 0) vs) ρ1) (hsrc : ∀ j, src = some j → j ∉ vs) (hok : ∀ i, i ≤ its.length → ok (wipeE (I i) vs)) (hlen : its.length < 100000)
    (hg : ∀ i d, its[i]? = some d → ∀ v σ H Q, tGv Kk vs d (wipeE (I i) vs) (T i).ρt v σ H Q → g v σ H Q) (ht : ∀ i d, its[i]? = some d → ∀ σ H Q, tT Kk (T i).ρt (T i).k (T i).ρm σ H Q → tt σ H Q) (he : ∀ i d, its[i]? = some d → (T i).k = true → ∀ σ H Q, tP Kk (T i).ρm (T i).y (T i).ρe σ H Q → te σ H Q)
    (hnx : ∀ (i : Nat) (d : PyData), its[i]? = some d → Le (wipeE (I (i + 1)) vs) (if (T i).k = true then (T i).ρe else (T i).ρm))
    (hq : ∀ p F' H', Ex F F' → SE Kk C F' H' σ (restE ρ1 (I its.length) vs) → F' p = none → C.H0 p = none → (∀ j, ¬ Owns σ (restE ρ1 (I its.length) vs) j p) → Own1 Kk F' H' p (.l (outs T its.length)) → Q (.ref p) H') :
    ∀ Dl, H Dl = none → ∃ W : Nat → Nat → Hp → Prop, (∃ m, W 0 m (upd H Dl (.lst []))) ∧ ∀ i m H, W i m H →
      (J.stop i H ∧ Q (.ref Dl) H) ∨ (J.go i H ∧ ∃ Nx : Hp → Prop, (∀ H', Nx H' → ∃ m', m' < m ∧ W (i + 1) m' H') ∧ ∀ v H', J.yld i H v H' →
        g v (L2.wipe σ vs) H' fun σ2 H2 => L2.wipe σ2 vs = L2.wipe σ vs ∧ tt σ2 H2 fun b H3 =>
            if b = true then te σ2 H3 fun y H4 => ∃ acc, H4 Dl = some (.lst acc) ∧ acc.length < sizeLine ∧ Nx (upd H4 Dl (.lst (acc ++ [y]))) else Nx H3) := by
  intro Dl hD
  have w0 := (se.le h0).wiped
  let St (i : Nat) (H' : Hp) : Prop := ∃ F' acc, Ex F F' ∧ SE Kk C F' H' (L2.wipe σ vs) (wipeE (I i) vs) ∧ F' Dl = none ∧ H' Dl = some (.lst acc) ∧ (∀ j, ¬ Owns (L2.wipe σ vs) (wipeE (I i) vs) j Dl) ∧ RpA Kk F' acc (outs T i)
  have c0 : C.H0 Dl = none := se.fr.there Dl hD
  have fD : F Dl = none := se.fr.ext.none hD
  refine ⟨fun i m H => m = its.length - i ∧ i ≤ its.length ∧ St i H, ⟨its.length, by simp, Nat.zero_le _, F, [], .refl _, w0.grow (.side w0.fr.ext hD), fD, upd_same, not_owns_new w0 hD, .nil⟩, ?_⟩
  rintro i m H1 ⟨rfl, hle, F1, acc, x1, e1, f1, h1, n1, r1⟩
  have same : ∀ j, src = some j → (L2.wipe σ vs)[j]? = σ[j]? := fun j q => wipe_out (hsrc j q)
  by_cases hlt : i < its.length
  · refine .inr ⟨wk.go i _ F1 H1 _ _ x1 e1 (hok i hle) same hlt, St (i + 1), fun H' q => ⟨its.length - (i + 1), by omega, rfl, hlt, q⟩, fun v H2 y => ?_⟩
    have e1' := e1.pin c0 h1 n1
    obtain ⟨d, F2, hd, x2, e2, r2⟩ := wk.yld i _ F1 H1 _ _ v H2 x1 e1' (hok i hle) same hlt y
    refine hg i d hd _ _ _ _ ⟨_, F2, e2, r2, fun σ3 F3 H3 w3' x3 e3 => ?_⟩
    have w3 := w3'.trans wipe_wipe
    refine ⟨w3, ?_⟩
    refine ht i d hd _ _ _ ⟨_, F3, e3, fun F4 H4 x4 e4 => ?_⟩
    have nx := hnx i d hd
    have olen := outs_len T i
    cases k : (T i).k with
    | true =>
      rw [k, if_pos rfl] at nx
      refine iteT (he i d hd k _ _ _ ⟨_, F4, e4, fun y F5 H5 x5 e5 r5 => ?_⟩)
      obtain ⟨e6, f6, h6, n6⟩ := SE.unpin e1.fr c0 f1 (e5.le nx).wiped
      rw [w3] at e6 n6
      refine ⟨acc, h6, by rw [r1.length]; exact line_lt (by omega), F5, acc ++ [y], x1.trans (x2.trans (x3.trans (x4.trans x5))), e6.wrx c0 f6 h6 n6, f6, upd_same, n6, ?_⟩
      unfold outs
      rw [k, if_pos rfl]
      exact (r1.mono (x2.trans (x3.trans (x4.trans x5)))).append (.cons r5 .nil)
    | false =>
      rw [k, if_neg Bool.false_ne_true] at nx
      refine iteF ?_
      obtain ⟨e6, f6, h6, n6⟩ := SE.unpin e1.fr c0 f1 (e4.le nx).wiped
      rw [w3] at e6 n6
      refine ⟨F4, acc, x1.trans (x2.trans (x3.trans x4)), e6, f6, h6, n6, ?_⟩
      unfold outs
      rw [k, if_neg Bool.false_ne_true]
      exact r1.mono (x2.trans (x3.trans x4))
  · have q : i = its.length := by omega
    subst q
    obtain ⟨b1, b2⟩ := SE.back se x1 e1
    exact .inl ⟨wk.stop _ F1 H1 _ _ x1 e1 (hok _ hle) same, hq Dl F1 H1 x1 b1 f1 c0 (fun j hj => n1 j (b2 j Dl hj)) ⟨acc, h1, r1⟩⟩
/-- what a list comprehension needs, whatever is done with it -/
structure LcOk (X : Cx) (elt tg iter : Expr) (ifs : List Expr) (scope : Scope) (ρ : En) (ct : Ct) (ρ' : En) : Prop where
  ex : ∃ (own : List (Str × Nat)) (wi : TI) (g : TG) (tt : TT) (te : TE), PI X tg iter wi ∧ BlkOk X.N X.env.scope scope own ∧ (∀ (s : Shared) (H : Hp) (C : Addr) (cl : List (Str × Addr)) (fp : List Addr), PG (X.blk s H scope (compEnvC scope cl C X.env) fp) tg g) ∧
    (∀ (s : Shared) (H : Hp) (C : Addr) (cl : List (Str × Addr)) (fp : List Addr), PTs (X.blk s H scope (compEnvC scope cl C X.env) fp) ifs tt) ∧ (∀ (s : Shared) (H : Hp) (C : Addr) (cl : List (Str × Addr)) (fp : List Addr), PE (X.blk s H scope (compEnvC scope cl C X.env) fp) elt te) ∧
    ∀ σ H Q, tN X.K ρ ct ρ' σ H Q → tLc wi g tt te (own.map (·.2)) σ H Q
/-- a list comprehension -/
theorem lc_ok (I : Nat → En) (T : Nat → Turn) (hb : BlkOk X.N X.env.scope scope own) (hi : ID X tg iter ρ its ok src ρ1) (h0 : Le (wipeE (I 0) (own.map (·.2))) ρ1) (hsrc : ∀ j, src = some j → j ∉ own.map (·.2)) (hok : ∀ i, i ≤ its.length → ok (wipeE (I i) (own.map (·.2)))) (hlen : its.length < 100000)
    (hT : ∀ i d, its[i]? = some d → TurnOk X scope (own.map (·.2)) tg elt ifs d (I i) (I (i + 1)) (T i)) :
    LcOk X elt tg iter ifs scope ρ (.l (outs T its.length)) (restE ρ1 (I its.length) (own.map (·.2))) := by
  have hg := fun (s : Shared) (H : Hp) (C : Addr) (cl : List (Str × Addr)) (fp : List Addr) => PG_ex (t := fun (p : { p : Nat × PyData // its[p.1]? = some p.2 }) => tGv X.K (own.map (·.2)) p.1.2 (wipeE (I p.1.1) (own.map (·.2))) (T p.1.1).ρt) fun p => (hT p.1.1 p.1.2 p.2).tg _ ⟨s, H, C, cl, fp, rfl⟩
  have ht := fun (s : Shared) (H : Hp) (C : Addr) (cl : List (Str × Addr)) (fp : List Addr) => PTs_ex fun p : { p : Nat × PyData // its[p.1]? = some p.2 } => (hT p.1.1 p.1.2 p.2).ts _ ⟨s, H, C, cl, fp, rfl⟩
  have he := fun (s : Shared) (H : Hp) (C : Addr) (cl : List (Str × Addr)) (fp : List Addr) => PE_ex fun p : { p : Nat × PyData // its[p.1]? = some p.2 ∧ (T p.1).k = true } => (hT p.1.1 p.1.2 p.2.1).el _ ⟨s, H, C, cl, fp, rfl⟩ p.2.2
  refine ⟨own, _, _, _, _, hi, hb, hg, ht, he, fun σ H Q ⟨C, F, se, q⟩ => ⟨C, F, se, fun J F1 H1 x1 e1 wk => ?_⟩⟩
  exact lc_read (g := fun v σ H Q => ∃ p : { p : Nat × PyData // its[p.1]? = some p.2 }, tGv X.K (own.map (·.2)) p.1.2 (wipeE (I p.1.1) (own.map (·.2))) (T p.1.1).ρt v σ H Q)
    (tt := fun σ H Q => ∃ p : { p : Nat × PyData // its[p.1]? = some p.2 }, tT X.K (T p.1.1).ρt (T p.1.1).k (T p.1.1).ρm σ H Q)
    (te := fun σ H Q => ∃ p : { p : Nat × PyData // its[p.1]? = some p.2 ∧ (T p.1).k = true }, tP X.K (T p.1.1).ρm (T p.1.1).y (T p.1.1).ρe σ H Q) e1 wk h0 hsrc hok hlen (fun i d hd v σ H Q t => ⟨⟨(i, d), hd⟩, t⟩) (fun i d hd σ H Q t => ⟨⟨(i, d), hd⟩, t⟩) (fun i d hd k σ H Q t => ⟨⟨(i, d), hd, k⟩, t⟩) (fun i d hd => (hT i d hd).nx) fun p F2 H2 x2 e2 f2 c2 n2 o2 => q p F2 H2 (x1.trans x2) e2 f2 c2 n2 o2
theorem pn_lc {ct : Ct} (h : LcOk X elt tg iter ifs scope ρ ct ρ') (hN : X.N.Nodup) (hc : X.calm = true := by rfl) (hs : ∀ x, foldedSetIterable iter X.env x = pure x := by intro _; rfl) : PN X (.ListComp elt [⟨tg, iter, ifs, 0⟩] scope pos) ρ ct ρ' := by
  obtain ⟨own, wi, g, tt, te, hi, hb, hg, ht, he, q⟩ := h.ex
  exact PE_imp (pe_lc hc hN hi hb hg ht he hs) q
/-- name = [..] on one line, the name a local: it goes on as its own list -/
theorem sd_setLcN {ct : Ct} {spos : Pos} (i : Nat) (h : LcOk X elt tg iter ifs scope ρ ct ρ') (h2 : D.nx (ρ'.set i (.o none ct))) (hN : X.N.Nodup) (hc : X.calm = true := by rfl) (hy : X.N[i]? = some w := by rfl) (hyl : X.env.scope.names.lookup w = some .local := by rfl)
    (hsw : swapsWith (.ListComp elt [⟨tg, iter, ifs, 0⟩] scope pos) (some (.Name w pos')) spos.line X.env = pure true := by rfl) (hs : ∀ x, foldedSetIterable iter X.env x = pure x := by intro _; rfl) : SD X W (.Assign [.Name w pos'] (.ListComp elt [⟨tg, iter, ifs, 0⟩] scope pos) spos) ρ D := by
  obtain ⟨own, wi, g, tt, te, hi, hb, hg, ht, he, q⟩ := h.ex
  exact PS_imp (ps_setLc hc hN hy hyl hsw hi hb hg ht he hs) fun E σ H ⟨C, F, se, cv⟩ => q σ H _ ⟨C, F, se, fun p F1 H1 x1 e1 fp h0 no r1 => cv.nx _ F1 H1 _ h2 (e1.setOwn fp h0 no r1)⟩
/-- .. as data -/
theorem sd_setLcD {spos : Pos} (i : Nat) (h : LcOk X elt tg iter ifs scope ρ (.l xs) ρ') (h2 : D.nx (ρ'.set i (.d (.list xs)))) (hN : X.N.Nodup) (hc : X.calm = true := by rfl) (hy : X.N[i]? = some w := by rfl) (hyl : X.env.scope.names.lookup w = some .local := by rfl)
    (hsw : swapsWith (.ListComp elt [⟨tg, iter, ifs, 0⟩] scope pos) (some (.Name w pos')) spos.line X.env = pure true := by rfl) (hs : ∀ x, foldedSetIterable iter X.env x = pure x := by intro _; rfl) : SD X W (.Assign [.Name w pos'] (.ListComp elt [⟨tg, iter, ifs, 0⟩] scope pos) spos) ρ D := by
  obtain ⟨own, wi, g, tt, te, hi, hb, hg, ht, he, q⟩ := h.ex
  refine PS_imp (ps_setLc hc hN hy hyl hsw hi hb hg ht he hs) fun E σ H ⟨C, F, se, cv⟩ => q σ H _ ⟨C, F, se, fun p F1 H1 x1 e1 fp h0 no r1 => ?_⟩
  obtain ⟨vs, hp, r⟩ := r1
  exact cv.nx _ (upd F1 p (.lst vs)) H1 _ h2 ((e1.frz fp hp h0 no).setD (.lst (SqL.of upd_same) (r.mono (.new fp))))
end
end
end G

/-! GCall: what defs promise, in words of data; calls. -/
namespace G
open PySem PySem.Spec PyProof.Rows L2

/-- how a call ends: it gives data, a new object, or raises -/
inductive Res where
  | ret (y : PyData)
  | own (c : Ct)
  | exc (cls : Value) (fs : List (Str × PyData))
def RetD (K : PySem.W.Frag) (F H : Hp) (Q : VK) (E : XK) : Res → Prop
  | .ret y => ∀ v F' H', Gr F H F' H' → Rp K F' v y → Q v H'
  | .own c => ∀ p F' H', Gr F H F' H' → H p = none → F' p = none → Own1 K F' H' p c → Q (.ref p) H'
  | .exc cls fs => ∀ d F' H', Gr F H F' H' → ExRep K F' H' d fs → E cls d H'
/-- growth, but for the object at l -/
structure GrW (l : Addr) (F H F' H' : Hp) : Prop where
  f : Ex F F'
  h : ∀ a o, a ≠ l → H a = some o → H' a = some o
  fh : Ex F' H'
  new : ∀ a, H a ≠ none → F a = none → F' a = none
theorem SE.wrg {K : PySem.W.Frag} {C : Cn} {F H F' H' : Hp} {σ : L2.St} {ρ : En} (e : SE K C F H σ ρ) {i : Nat} {l : Addr} {p : Option Addr} {c c' : Ct} (g : GrW l F H F' H') (hi : ρ[i]? = some (.o p c)) (hl : σ[i]? = some (some (.ref l))) (h : Own1 K F' H' l c') : SE K C F' H' σ (ρ.set i (.o p c')) := by
  have ow : Owns σ ρ i l := ⟨hl, _, hi, rfl⟩
  obtain ⟨w1, w2, w3⟩ := e.own i l ow
  have hp : p = none ∨ p = some l := by
    obtain ⟨l', a, b, _⟩ := e.getO hi
    rw [hl] at a
    cases a
    exact b
  have conv : ∀ j a, Owns σ (ρ.set i (.o p c')) j a → Owns σ ρ j a := fun j a hj => by
    obtain ⟨h1, t, h2, h3⟩ := hj
    by_cases q : j = i
    · subst q
      rw [hl] at h1
      cases h1
      exact ow
    · rw [List.getElem?_set_ne (Ne.symm q)] at h2
      exact ⟨h1, t, h2, h3⟩
  have back : ∀ a, H' a = none → H a = none := fun a ha => by
    by_cases q : a = l
    · subst q; exact absurd ha h.some
    · cases z : H a with
      | none => rfl
      | some o => rw [g.h a o q z] at ha; cases ha
  refine ⟨⟨g.fh, e.fr.f0.trans g.f, fun a u hu m => ?_, fun a ha => e.fr.there a (back a ha), fun a ha z => g.new a (fun q => ha (e.fr.there a q)) (e.fr.new a ha z), e.fr.mM⟩, by rw [List.length_set]; exact e.len, fun j t ht => ?_, fun j k a hj hk => e.sep j k a (conv j a hj) (conv k a hk), fun j a hj => ?_, fun j a d h1 h2 => ?_⟩
  · refine g.h a u (fun q => ?_) (e.fr.h0 a u hu m)
    subst q
    rcases w3 with z | z
    · rw [z] at hu; cases hu
    · exact m z
  · by_cases q : j = i
    · subst q
      obtain ⟨rfl, _⟩ := set_at ht
      rw [hl]
      exact ⟨l, rfl, hp, h⟩
    · rw [List.getElem?_set_ne (Ne.symm q)] at ht
      exact (e.ok j t ht).grow g.f fun b u hb ot hu => g.h b u (fun nb => q (by subst nb; exact e.sep j i b (slot_own ht ot (join_some hb)) ow)) hu
  · obtain ⟨x1, x2, x3⟩ := e.own j a (conv j a hj)
    exact ⟨g.new a x2 x1, fun z => x2 (back a z), x3⟩
  · by_cases q : j = i
    · subst q
      obtain ⟨q1, _⟩ := set_at h1
      cases q1
      exact e.fresh j a c hi h2
    · rw [List.getElem?_set_ne (Ne.symm q)] at h1
      exact e.fresh j a d h1 h2
/-- a promise over data -/
def spD (K : PySem.W.Frag) (S : List PyData → Res → Prop) : Sp := fun vs H Q E => ∃ F ds r, Ex F H ∧ RpA K F vs ds ∧ S ds r ∧ RetD K F H Q E r
/-- .. where the first argument is a list that is changed -/
def spO (K : PySem.W.Frag) (S : List PyData → List PyData → PyData → List PyData → Prop) : Sp := fun vs H Q E => ∃ F l vs' us xs ds y xs', vs = .ref l :: vs' ∧ Ex F H ∧ F l = none ∧ H l = some (.lst us) ∧ RpA K F us xs ∧ RpA K F vs' ds ∧ S xs ds y xs' ∧
  ∀ v F' H' us', GrW l F H F' H' → H' l = some (.lst us') → RpA K F' us' xs' → Rp K F' v y → Q v H'
/-- what a body has at its start -/
def pad (n : Nat) (l : En) : En := l ++ List.replicate (n - l.length) .un
def Dof : Res → DE
  | .ret y => { rt := fun x _ => x = y, nx := fun _ => y = .none }
  | .own c => { rn := fun c' _ => c' = c }
  | .exc cls fs => { ex := fun c' fs' _ => c' = cls ∧ fs' = fs }
section
variable {K : PySem.W.Frag} {F H : Hp}
theorem start_get {N : List Str} {vs : List V} {i : Nat} : (L2.start N vs)[i]?.join = vs[i]? := by
  unfold L2.start
  by_cases h : i < vs.length
  · rw [List.getElem?_append_left (by rw [List.length_map]; exact h), List.getElem?_map, List.getElem?_eq_getElem h]; rfl
  · rw [List.getElem?_append_right (by rw [List.length_map]; omega), List.getElem?_eq_none (Nat.le_of_not_lt h), List.getElem?_replicate]
    split <;> rfl
theorem pad_get {n i : Nat} {l : En} {s : Sl} (h : (pad n l)[i]? = some s) : l[i]? = some s ∨ s = .un := by
  unfold pad at h
  by_cases q : i < l.length
  · rw [List.getElem?_append_left q] at h; exact .inl h
  · rw [List.getElem?_append_right (by omega), List.getElem?_replicate] at h
    split at h
    · cases h; exact .inr rfl
    · cases h
theorem pad_len {n : Nat} {l : En} (h : l.length ≤ n) : (pad n l).length = n := by
  unfold pad; rw [List.length_append, List.length_replicate]; omega
theorem start_len {N : List Str} {vs : List V} (h : vs.length ≤ N.length) : (L2.start N vs).length = N.length := by
  unfold L2.start; rw [List.length_append, List.length_map, List.length_replicate]; omega
theorem SE.start {N : List Str} {vs : List V} {ds : List PyData} (e : Ex F H) (r : RpA K F vs ds) (hl : vs.length ≤ N.length) : SE K ⟨F, H, []⟩ F H (L2.start N vs) (pad N.length (ds.map .d)) := by
  have no : ∀ i a, ¬ Owns (L2.start N vs) (pad N.length (ds.map .d)) i a := fun i a ⟨_, s, h2, h3⟩ => by
    rcases pad_get h2 with z | z
    · rw [List.getElem?_map] at z
      cases q : ds[i]? with
      | none => rw [q] at z; cases z
      | some d => rw [q] at z; cases z; cases h3
    · subst z; cases h3
  refine ⟨⟨e, .refl _, fun _ _ h _ => h, fun _ h => h, fun _ _ z => z, fun a ha => by cases ha⟩, ?_, fun i s h => ?_, fun i j a hi => absurd hi (no i a), fun i a hi => absurd hi (no i a), fun i a c h1 h2 => absurd ⟨h2, _, h1, rfl⟩ (no i a)⟩
  · rw [start_len hl, pad_len (by rw [List.length_map, ← r.length]; exact hl)]
  · rw [start_get]
    rcases pad_get h with z | z
    · rw [List.getElem?_map] at z
      cases q : ds[i]? with
      | none => rw [q] at z; cases z
      | some d =>
        rw [q] at z; cases z
        obtain ⟨v, h1, h2⟩ := r.get q
        exact ⟨v, h1, h2⟩
    · subst z; trivial
theorem SE.startO {N : List Str} {l : Addr} {us vs : List V} {xs ds : List PyData} (e : Ex F H) (fl : F l = none) (hl0 : H l = some (.lst us)) (ru : RpA K F us xs) (r : RpA K F vs ds) (hl : vs.length + 1 ≤ N.length) :
    SE K ⟨F, H, [l]⟩ F H (L2.start N (.ref l :: vs)) (pad N.length (.o (some l) (.l xs) :: ds.map .d)) := by
  have ow : ∀ i a, Owns (L2.start N (.ref l :: vs)) (pad N.length (.o (some l) (.l xs) :: ds.map .d)) i a → i = 0 ∧ a = l := fun i a ⟨h1, s, h2, h3⟩ => by
    rcases pad_get h2 with z | z
    · cases i with
      | zero =>
        have := start_get (N := N) (vs := .ref l :: vs) (i := 0)
        rw [h1] at this
        cases this
        exact ⟨rfl, rfl⟩
      | succ i =>
        rw [List.getElem?_cons_succ, List.getElem?_map] at z
        cases q : ds[i]? with
        | none => rw [q] at z; cases z
        | some d => rw [q] at z; cases z; cases h3
    · subst z; cases h3
  refine ⟨⟨e, .refl _, fun _ _ h _ => h, fun _ h => h, fun _ _ z => z, fun a ha => ?_⟩, ?_, fun i s h => ?_, fun i j a hi hj => by rw [(ow i a hi).1, (ow j a hj).1], fun i a hi => ?_, fun i a c h1 h2 => ?_⟩
  · cases List.mem_singleton.mp ha
    show H l ≠ none
    rw [hl0]; exact fun z => nomatch z
  · rw [start_len (by simpa using hl), pad_len (by rw [List.length_cons, List.length_map, ← r.length]; exact hl)]
  · rw [start_get]
    rcases pad_get h with z | z
    · cases i with
      | zero => cases z; exact ⟨l, rfl, .inr rfl, us, hl0, ru⟩
      | succ i =>
        rw [List.getElem?_cons_succ, List.getElem?_map] at z
        rw [List.getElem?_cons_succ]
        cases q : ds[i]? with
        | none => rw [q] at z; cases z
        | some d =>
          rw [q] at z; cases z
          obtain ⟨v, h1, h2⟩ := r.get q
          exact ⟨v, h1, h2⟩
    · subst z; trivial
  · obtain ⟨rfl, rfl⟩ := ow i a hi
    refine ⟨fl, ?_, .inr (List.mem_singleton.mpr rfl)⟩
    rw [hl0]; exact fun z => nomatch z
  · obtain ⟨rfl, rfl⟩ := ow i a ⟨h2, _, h1, rfl⟩
    rcases pad_get h1 with z | z
    · cases z
    · cases z
theorem Gr.ofFr {F' H' : Hp} (f : Fr ⟨F, H, []⟩ F' H') : Gr F H F' H' := ⟨f.f0, fun a o h => f.h0 a o h (by simp), f.ext, f.new⟩
theorem GrW.ofFr {l : Addr} {F' H' : Hp} (f : Fr ⟨F, H, [l]⟩ F' H') : GrW l F H F' H' := ⟨f.f0, fun a o q h => f.h0 a o h (by simpa using q), f.ext, f.new⟩
end
section
variable {P : Program} {w : World} {K : PySem.W.Frag} {mg : Str → Option Value} {base : Heap} {x qual : Str} {st : Stmt} {f : Addr} {fd : FuncData} {N ps : List Str} {k : Nat}
abbrev WB (E : XK) : WX := fun cls d _ H => E cls d H
theorem body_run {X : Cx} {E : XK} {Q : VK} {sts : List Stmt} {F H : Hp} {vs : List V} {r : Res} {ds : List PyData} (hK : X.K = K) (ex : Ex F H) (rv : RpA K F vs ds) (hl : vs.length ≤ N.length) (rd : RetD K F H Q E r) :
    tD K (WB E) (pad N.length (ds.map .d)) (Dof r) { nx := fun _ H' => Q .non H', rt := Q } (L2.start N vs) H := by
  refine ⟨⟨F, H, []⟩, F, .start ex rv hl, ?_⟩
  cases r with
  | ret y =>
    exact ⟨fun ρ' F' H' σ' q s => rd _ F' H' (.ofFr s.fr) (by rw [show y = .none from q]; exact .non), fun x ρ' v F' H' σ' q s rp => rd v F' H' (.ofFr s.fr) (by rw [← show x = y from q]; exact rp), fun _ _ _ _ _ _ _ z => z.elim, fun _ _ _ _ z => z.elim, fun _ _ _ _ z => z.elim, fun _ _ _ _ _ _ z => z.elim⟩
  | own c =>
    exact ⟨fun _ _ _ _ z => z.elim, fun _ _ _ _ _ _ z => z.elim, fun _ _ _ _ _ _ _ z => z.elim, fun _ _ _ _ z => z.elim, fun _ _ _ _ z => z.elim, fun c' ρ' p F' H' σ' q s fp hp o => by
      cases (show c' = c from q)
      exact rd p F' H' (.ofFr s.fr) hp fp o⟩
  | exc cls fs =>
    exact ⟨fun _ _ _ _ z => z.elim, fun _ _ _ _ _ _ z => z.elim, fun c' fs' ρ' d F' H' σ' q s rp => by
      obtain ⟨rfl, rfl⟩ := (show c' = cls ∧ fs' = fs from q)
      exact rd d F' H' (.ofFr s.fr) rp, fun _ _ _ _ z => z.elim, fun _ _ _ _ z => z.elim, fun _ _ _ _ _ _ z => z.elim⟩
/-- THE RULE for a def over data -/
theorem fn_D {S : List PyData → Res → Prop} (Fn : Fun K x qual st f fd) (Sc : FnScope N ps (defScope st)) (hlen : ∀ ds r, S ds r → ds.length = ps.length) (hN : ps.length ≤ N.length)
    (hb : ∀ (cdv : Value) (A : Around) (outer : List Env) (s : Shared) (H : Hp) (E : XK), Room k (A.deeper (envOfC qual (defScope st) s.heap.objs.size f cdv)) → ∀ ds r, S ds r →
      BD (cxOf (L2.CX P w) P w K mg base N qual (defScope st) f cdv A outer s H E) (WB E) (defBody st) (pad N.length (ds.map .d)) (Dof r)) : FnOk P w K mg base (L2.CX P w) (k + 1) f fd ps (spD K S) := by
  refine Fn.okX Sc (fun vs H Q E ⟨F, ds, r, _, rv, s, _⟩ => by rw [rv.length]; exact hlen ds r s) fun cdv A outer s H vs Q E hr ⟨F, ds, r, ex, rv, sr, rd⟩ => ?_
  exact ⟨_, hb cdv A outer s H E hr ds r sr, body_run (X := cxOf (L2.CX P w) P w K mg base N qual (defScope st) f cdv A outer s H E) (sts := []) rfl ex rv (by rw [rv.length, hlen ds r sr]; exact hN) rd⟩
/-- .. with defaults -/
theorem fn_DD {S : List PyData → Res → Prop} {params : Arguments} {body : List Stmt} {scope : Scope} {dvs : List V} {kws : List (Str × V)} (Fn : FunD K x qual params body scope dvs kws f fd) (Sc : FnScope N ps scope) (hlen : ∀ ds r, S ds r → ds.length = ps.length) (hN : ps.length ≤ N.length)
    (hb : ∀ (cdv : Value) (A : Around) (outer : List Env) (s : Shared) (H : Hp) (E : XK), Room k (A.deeper (envOfC qual scope s.heap.objs.size f cdv)) → ∀ ds r, S ds r →
      BD (cxOf (L2.CX P w) P w K mg base N qual scope f cdv A outer s H E) (WB E) body (pad N.length (ds.map .d)) (Dof r)) : FnOk P w K mg base (L2.CX P w) (k + 1) f fd ps (spD K S) := by
  refine Fn.ok Sc (fun vs H Q E ⟨F, ds, r, _, rv, s, _⟩ => by rw [rv.length]; exact hlen ds r s) fun cdv A outer s H vs Q E hr ⟨F, ds, r, ex, rv, sr, rd⟩ => ?_
  exact ⟨_, hb cdv A outer s H E hr ds r sr, body_run (X := cxOf (L2.CX P w) P w K mg base N qual scope f cdv A outer s H E) (sts := []) rfl ex rv (by rw [rv.length, hlen ds r sr]; exact hN) rd⟩
/-- .. where the first argument is changed -/
theorem fn_O {S : List PyData → List PyData → PyData → List PyData → Prop} (Fn : Fun K x qual st f fd) (Sc : FnScope N ps (defScope st)) (hlen : ∀ xs ds y xs', S xs ds y xs' → ds.length + 1 = ps.length) (hN : ps.length ≤ N.length)
    (hb : ∀ (cdv : Value) (A : Around) (outer : List Env) (s : Shared) (H : Hp) (E : XK), Room k (A.deeper (envOfC qual (defScope st) s.heap.objs.size f cdv)) → ∀ l xs ds y xs', S xs ds y xs' →
      BD (cxOf (L2.CX P w) P w K mg base N qual (defScope st) f cdv A outer s H E) (WB E) (defBody st) (pad N.length (.o (some l) (.l xs) :: ds.map .d)) { rt := fun x ρ => x = y ∧ ρ[0]? = some (.o (some l) (.l xs')), nx := fun ρ => y = .none ∧ ρ[0]? = some (.o (some l) (.l xs')) }) :
    FnOk P w K mg base (L2.CX P w) (k + 1) f fd ps (spO K S) := by
  refine Fn.okX Sc (fun vs H Q E ⟨F, l, vs', us, xs, ds, y, xs', ev, _, _, _, _, rv, s, _⟩ => by rw [ev, List.length_cons, rv.length]; exact hlen _ _ _ _ s) fun cdv A outer s H vs Q E hr ⟨F, l, vs', us, xs, ds, y, xs', ev, ex, fl, hl, ru, rv, sr, rd⟩ => ?_
  subst ev
  refine ⟨_, hb cdv A outer s H E hr l xs ds y xs' sr, ⟨F, H, [l]⟩, F, .startO ex fl hl ru rv (by rw [rv.length, hlen _ _ _ _ sr]; exact hN), ?_⟩
  have look : ∀ {C : Cn} {F' H' : Hp} {σ' : L2.St} {ρ' : En}, SE K C F' H' σ' ρ' → ρ'[0]? = some (.o (some l) (.l xs')) → ∃ us', H' l = some (.lst us') ∧ RpA K F' us' xs' := fun {C F' H' σ' ρ'} s h => by
    obtain ⟨l', _, b, ⟨us', c, d⟩, _⟩ := s.getO h
    rcases b with b | b
    · cases b
    · cases b
      exact ⟨us', c, d⟩
  refine ⟨fun ρ' F' H' σ' ⟨q1, q2⟩ s => ?_, fun x ρ' v F' H' σ' ⟨q1, q2⟩ s rp => ?_, fun _ _ _ _ _ _ _ z => z.elim, fun _ _ _ _ z => z.elim, fun _ _ _ _ z => z.elim, fun _ _ _ _ _ _ z => z.elim⟩
  · obtain ⟨us', c, d⟩ := look s q2
    exact rd _ F' H' us' (.ofFr s.fr) c d (by rw [q1]; exact .non)
  · obtain ⟨us', c, d⟩ := look s q2
    exact rd v F' H' us' (.ofFr s.fr) c d (by rw [← q1]; exact rp)
/-- .. where the first argument is changed -/
theorem fn_OD {params : Arguments} {body : List Stmt} {scope : Scope} {dvs : List V} {kws : List (Str × V)} {S : List PyData → List PyData → PyData → List PyData → Prop} (Fn : FunD K x qual params body scope dvs kws f fd) (Sc : FnScope N ps scope) (hlen : ∀ xs ds y xs', S xs ds y xs' → ds.length + 1 = ps.length) (hN : ps.length ≤ N.length)
    (hb : ∀ (cdv : Value) (A : Around) (outer : List Env) (s : Shared) (H : Hp) (E : XK), Room k (A.deeper (envOfC qual scope s.heap.objs.size f cdv)) → ∀ l xs ds y xs', S xs ds y xs' →
      BD (cxOf (L2.CX P w) P w K mg base N qual scope f cdv A outer s H E) (WB E) body (pad N.length (.o (some l) (.l xs) :: ds.map .d)) { rt := fun x ρ => x = y ∧ ρ[0]? = some (.o (some l) (.l xs')), nx := fun ρ => y = .none ∧ ρ[0]? = some (.o (some l) (.l xs')) }) :
    FnOk P w K mg base (L2.CX P w) (k + 1) f fd ps (spO K S) := by
  refine Fn.ok Sc (fun vs H Q E ⟨F, l, vs', us, xs, ds, y, xs', ev, _, _, _, _, rv, s, _⟩ => by rw [ev, List.length_cons, rv.length]; exact hlen _ _ _ _ s) fun cdv A outer s H vs Q E hr ⟨F, l, vs', us, xs, ds, y, xs', ev, ex, fl, hl, ru, rv, sr, rd⟩ => ?_
  subst ev
  refine ⟨_, hb cdv A outer s H E hr l xs ds y xs' sr, ⟨F, H, [l]⟩, F, .startO ex fl hl ru rv (by rw [rv.length, hlen _ _ _ _ sr]; exact hN), ?_⟩
  have look : ∀ {C : Cn} {F' H' : Hp} {σ' : L2.St} {ρ' : En}, SE K C F' H' σ' ρ' → ρ'[0]? = some (.o (some l) (.l xs')) → ∃ us', H' l = some (.lst us') ∧ RpA K F' us' xs' := fun {C F' H' σ' ρ'} s h => by
    obtain ⟨l', _, b, ⟨us', c, d⟩, _⟩ := s.getO h
    rcases b with b | b
    · cases b
    · cases b
      exact ⟨us', c, d⟩
  refine ⟨fun ρ' F' H' σ' ⟨q1, q2⟩ s => ?_, fun x ρ' v F' H' σ' ⟨q1, q2⟩ s rp => ?_, fun _ _ _ _ _ _ _ z => z.elim, fun _ _ _ _ z => z.elim, fun _ _ _ _ z => z.elim, fun _ _ _ _ _ _ z => z.elim⟩
  · obtain ⟨us', c, d⟩ := look s q2
    exact rd _ F' H' us' (.ofFr s.fr) c d (by rw [q1]; exact .non)
  · obtain ⟨us', c, d⟩ := look s q2
    exact rd v F' H' us' (.ofFr s.fr) c d (by rw [← q1]; exact rp)
/-- a def that may be called by its name, dvs: the defaults that fill up -/
structure Cal (P : Program) (w : World) (K : PySem.W.Frag) (mg : Str → Option Value) (base : Heap) (k : Nat) (x : Str) (sp : Sp) (dvs : List V) : Prop where
  ex : ∃ (f : Addr) (fd : FuncData) (ps : List Str) (ds : List Value), FnOk P w K mg base (L2.CX P w) k f fd ps sp ∧ mg x = some (.ref f) ∧ PySem.W.keepIn K (.ref f) = true ∧ Binds K fd ps ds ∧ Vals dvs ds
theorem Cal.mono {j k : Nat} {sp : Sp} {dvs : List V} (c : Cal P w K mg base j x sp dvs) (h : j ≤ k) : Cal P w K mg base k x sp dvs := by
  obtain ⟨f, fd, ps, ds, a, b⟩ := c.ex
  exact ⟨f, fd, ps, ds, a.mono h, b⟩
end
/-- defaults as data: ints, texts, None, booleans -/
inductive Dfs : List V → List PyData → Prop
  | nil : Dfs [] []
  | int {i : Int} {vs : List V} {ds : List PyData} : Dfs vs ds → Dfs (.int i :: vs) (.int i :: ds)
  | str {i : Str} {vs : List V} {ds : List PyData} : Dfs vs ds → Dfs (.str i :: vs) (.str i :: ds)
  | bl {i : Bool} {vs : List V} {ds : List PyData} : Dfs vs ds → Dfs (.bl i :: vs) (.bool i :: ds)
  | non {vs : List V} {ds : List PyData} : Dfs vs ds → Dfs (.non :: vs) (.none :: ds)
theorem Dfs.rp {K : PySem.W.Frag} {F : Hp} : ∀ {vs : List V} {ds : List PyData}, Dfs vs ds → RpA K F vs ds
  | _, _, .nil => .nil
  | _, _, .int h => .cons (.int _) h.rp
  | _, _, .str h => .cons (.str _) h.rp
  | _, _, .bl h => .cons (.bl _) h.rp
  | _, _, .non h => .cons .non h.rp
section
variable {X : Cx} {W : WX} {e a b c : Expr} {es : List Expr} {p pos pos' : Pos} {ρ ρ' ρ1 ρ2 ρ3 : En} {y z : PyData} {xs ys xs' ds : List PyData} {i j k : Nat} {x : Str} {dvs : List V} {dds : List PyData}
theorem passE0 {X : Cx} (σ : L2.St) : PassesAt (L2.CX X.prog X.w) X σ E0 := fun _ _ _ _ _ _ h => by
  obtain ⟨_, _, _, _, _, _, _, _, _, _, _, _, z⟩ := h
  exact z.elim
theorem pd_call {S : List PyData → Res → Prop} (cl : Cal X.prog X.w X.K X.mg X.base j x (spD X.K S) dvs) (hr : Room k X.A) (hd : Dfs dvs dds) (ha : AD X (e :: es) ρ ds ρ1) (hS : S (ds ++ dds) (.ret y)) (hk : j ≤ k := by decide) (hg : Gl X x := by rfl)
    (hdb : (x == ("__debug__" : Str)) = false := by decide) (he : starEach (e :: es) X.env = (false, eval e X.env) :: starEach es X.env := by rfl) (hpl : (backTo pos (starEach es X.env)).any (·.1) = false := by rfl) :
    PD X (.Call (.Name x p) (e :: es) [] pos) ρ y ρ1 := by
  obtain ⟨f, fd, ps, dd, fn, hm, kp, bi, vv⟩ := cl.ex
  refine PE_imp (pe_callSD fn (hr.mono hk) hg hm kp bi vv (fun σ => passE0 σ) ha hdb he hpl) fun σ H Q ⟨C, F, se, q⟩ => ⟨C, F, se, fun vs F1 H1 x1 e1 r1 => ?_⟩
  exact ⟨F1, _, _, e1.fr.ext, r1.append hd.rp, hS, fun v F2 H2 g r => q v F2 H2 (x1.trans g.f) (e1.grow g) r⟩
theorem pn_call {S : List PyData → Res → Prop} {ct : Ct} (cl : Cal X.prog X.w X.K X.mg X.base j x (spD X.K S) dvs) (hr : Room k X.A) (hd : Dfs dvs dds) (ha : AD X (e :: es) ρ ds ρ1) (hS : S (ds ++ dds) (.own ct)) (hk : j ≤ k := by decide) (hg : Gl X x := by rfl)
    (hdb : (x == ("__debug__" : Str)) = false := by decide) (he : starEach (e :: es) X.env = (false, eval e X.env) :: starEach es X.env := by rfl) (hpl : (backTo pos (starEach es X.env)).any (·.1) = false := by rfl) :
    PN X (.Call (.Name x p) (e :: es) [] pos) ρ ct ρ1 := by
  obtain ⟨f, fd, ps, dd, fn, hm, kp, bi, vv⟩ := cl.ex
  refine PE_imp (pe_callSD fn (hr.mono hk) hg hm kp bi vv (fun σ => passE0 σ) ha hdb he hpl) fun σ H Q ⟨C, F, se, q⟩ => ⟨C, F, se, fun vs F1 H1 x1 e1 r1 => ?_⟩
  exact ⟨F1, _, _, e1.fr.ext, r1.append hd.rp, hS, fun p F2 H2 g hp fp o => q p F2 H2 (x1.trans g.f) (e1.grow g) fp (e1.fr.there p hp) (not_owns_new e1 hp) o⟩
/-- an expression that raises -/
def tX (K : PySem.W.Frag) (W : WX) (ρ : En) (cls : Value) (fs : List (Str × PyData)) (ρ' : En) : TE := fun σ H _ => ∃ C F, SE K C F H σ ρ ∧ ∀ d F' H', Ex F F' → SE K C F' H' σ ρ' → ExRep K F' H' d fs → W cls d σ H'
abbrev PX (X : Cx) (W : WX) (e : Expr) (ρ : En) (cls : Value) (fs : List (Str × PyData)) (ρ' : En) : Prop := PE X e (tX X.K W ρ cls fs ρ')
theorem px_call {S : List PyData → Res → Prop} {cls : Value} {fs : List (Str × PyData)} (tk : Takes X W) (cl : Cal X.prog X.w X.K X.mg X.base j x (spD X.K S) dvs) (hr : Room k X.A) (hd : Dfs dvs dds) (ha : AD X (e :: es) ρ ds ρ1) (hS : S (ds ++ dds) (.exc cls fs)) (hk : j ≤ k := by decide) (hg : Gl X x := by rfl)
    (hdb : (x == ("__debug__" : Str)) = false := by decide) (he : starEach (e :: es) X.env = (false, eval e X.env) :: starEach es X.env := by rfl) (hpl : (backTo pos (starEach es X.env)).any (·.1) = false := by rfl) :
    PX X W (.Call (.Name x p) (e :: es) [] pos) ρ cls fs ρ1 := by
  obtain ⟨f, fd, ps, dd, fn, hm, kp, bi, vv⟩ := cl.ex
  refine PE_imp (pe_callSD fn (hr.mono hk) hg hm kp bi vv (fun σ => passAt tk σ) ha hdb he hpl) fun σ H Q ⟨C, F, se, q⟩ => ⟨C, F, se, fun vs F1 H1 x1 e1 r1 => ?_⟩
  exact ⟨F1, _, _, e1.fr.ext, r1.append hd.rp, hS, fun d F2 H2 g r => q d F2 H2 (x1.trans g.f) (e1.grow g) r⟩
/-- the first argument a name that owns its list, which is changed -/
theorem pd_callO {S : List PyData → List PyData → PyData → List PyData → Prop} {o : Str} {p0 : Pos} {pa pb : Option Addr} (i : Nat) (cl : Cal X.prog X.w X.K X.mg X.base j x (spO X.K S) dvs) (hr : Room k X.A) (hd : Dfs dvs dds) (h0 : ρ[i]? = some (.o pa (.l ys))) (ha : AD X es ρ ds ρ1) (h1 : ρ1[i]? = some (.o pb (.l xs))) (hS : S xs (ds ++ dds) y xs') (hk : j ≤ k := by decide) (hg : Gl X x := by rfl)
    (hN : X.N[i]? = some o := by rfl) (hv : Vis X.env.scope o := by first | exact Or.inl rfl | exact Or.inr (Or.inl rfl) | exact Or.inr (Or.inr rfl)) (hdo : (o == ("__debug__" : Str)) = false := by decide) (hcd : (o == ("__classdict__" : Str)) = false := by decide)
    (hdb : (x == ("__debug__" : Str)) = false := by decide) (he : starEach (.Name o p0 :: es) X.env = (false, eval (.Name o p0) X.env) :: starEach es X.env := by rfl) (hpl : (backTo pos (starEach es X.env)).any (·.1) = false := by rfl) :
    PD X (.Call (.Name x p) (.Name o p0 :: es) [] pos) ρ y (ρ1.set i (.o pb (.l xs'))) := by
  obtain ⟨f, fd, ps, dd, fn, hm, kp, bi, vv⟩ := cl.ex
  refine PE_imp (pe_callSD fn (hr.mono hk) hg hm kp bi vv (fun σ => passE0 σ) (pa_cons (pe_var hN hv hdo hcd) ha he) hdb he hpl) fun σ H Q ⟨C, F, se, q⟩ => ?_
  obtain ⟨l, a1, _, _, a4⟩ := se.getO h0
  refine ⟨.ref l, a1, C, F, se, fun vs F1 H1 x1 e1 r1 => ?_⟩
  obtain ⟨l', b1, b2, ⟨us, b3, b5⟩, b4⟩ := e1.getO h1
  rw [a1] at b1
  cases b1
  refine ⟨F1, l, vs ++ dvs, us, xs, ds ++ dds, y, xs', rfl, e1.fr.ext, (e1.own i l b4).1, b3, b5, r1.append hd.rp, hS, fun v F2 H2 us' g h2 ru rv => ?_⟩
  exact q v F2 H2 (x1.trans g.f) (e1.wrg g h1 a1 ⟨us', h2, ru⟩) rv
end
end G

/-! GBuiltin: built-in functions and operations in words of data. -/
namespace G
open PySem PySem.Spec PyProof.Rows L2

theorem rpa_one {K : PySem.W.Frag} {F : Hp} {vs : List V} {x : PyData} (r : RpA K F vs [x]) : ∃ v, vs = [v] ∧ Rp K F v x := by
  cases r with
  | cons a b => cases b; exact ⟨_, rfl, a⟩
theorem rpa_two {K : PySem.W.Frag} {F : Hp} {vs : List V} {x y : PyData} (r : RpA K F vs [x, y]) : ∃ v w, vs = [v, w] ∧ Rp K F v x ∧ Rp K F w y := by
  cases r with
  | cons a b =>
    obtain ⟨w, rfl, h⟩ := rpa_one b
    exact ⟨_, _, rfl, a, h⟩
/-- a built-in function's reading takes data to data -/
def FnD (K : PySem.W.Frag) (r : List V → Hp → VK → Prop) (xs : List PyData) (y : PyData) : Prop := ∀ (F H : Hp) (vs : List V) (Q : VK), Ex F H → RpA K F vs xs → (∀ v F' H', Gr F H F' H' → Rp K F' v y → Q v H') → r vs H Q
/-- .. to a new object -/
def FnN (K : PySem.W.Frag) (r : List V → Hp → VK → Prop) (xs : List PyData) (c : Ct) : Prop := ∀ (F H : Hp) (vs : List V) (Q : VK), Ex F H → RpA K F vs xs → (∀ p F' H', Gr F H F' H' → H p = none → F' p = none → Own1 K F' H' p c → Q (.ref p) H') → r vs H Q
section
variable {X : Cx} {W : WX} {e a b c : Expr} {es : List Expr} {p pos pos' apos : Pos} {ρ ρ' ρ1 ρ2 ρ3 : En} {x y z : PyData} {xs ys zs ds : List PyData} {i j : Int} {k : Nat} {w : Str} {s t : Str} {id T : String} {r : List V → Hp → VK → Prop} {ct : Ct}
theorem pd_bi (hc : CallR X (.builtin id) r) (hf : FnD X.K r ds y) (ha : AD X (e :: es) ρ ds ρ1) (hm : X.mg w = none) (hv : bootBuiltins w = some (.builtin id) := by rfl) (hg : Gl X w := by rfl) (hn : w ≠ "__name__" := by decide) (hdb : (w == ("__debug__" : Str)) = false := by decide)
    (he : starEach (e :: es) X.env = (false, eval e X.env) :: starEach es X.env := by rfl) (hpl : (backTo pos (starEach es X.env)).any (·.1) = false := by rfl) : PD X (.Call (.Name w p) (e :: es) [] pos) ρ y ρ1 :=
  PE_imp (pe_callB hc hg hm hv ha hn hdb he hpl) fun σ H Q ⟨C, F, se, q⟩ => ⟨C, F, se, fun vs F1 H1 x1 e1 r1 => hf F1 H1 vs Q e1.fr.ext r1 fun v F2 H2 g r2 => q v F2 H2 (x1.trans g.f) (e1.grow g) r2⟩
theorem pd_ty (hc : CallR X (.type T) r) (hf : FnD X.K r ds y) (ha : AD X (e :: es) ρ ds ρ1) (hm : X.mg w = none) (hv : bootBuiltins w = some (.type T) := by rfl) (hg : Gl X w := by rfl) (hn : w ≠ "__name__" := by decide) (hdb : (w == ("__debug__" : Str)) = false := by decide)
    (he : starEach (e :: es) X.env = (false, eval e X.env) :: starEach es X.env := by rfl) (hpl : (backTo pos (starEach es X.env)).any (·.1) = false := by rfl) : PD X (.Call (.Name w p) (e :: es) [] pos) ρ y ρ1 :=
  PE_imp (pe_callTy hc hg hm hv ha hn hdb he hpl) fun σ H Q ⟨C, F, se, q⟩ => ⟨C, F, se, fun vs F1 H1 x1 e1 r1 => hf F1 H1 vs Q e1.fr.ext r1 fun v F2 H2 g r2 => q v F2 H2 (x1.trans g.f) (e1.grow g) r2⟩
theorem pn_of {K : PySem.W.Frag} {C : Cn} {F F1 H1 : Hp} {σ : L2.St} {Q : VK} (x1 : Ex F F1) (e1 : SE K C F1 H1 σ ρ1) (q : ∀ p F' H', Ex F F' → SE K C F' H' σ ρ1 → F' p = none → C.H0 p = none → (∀ j, ¬ Owns σ ρ1 j p) → Own1 K F' H' p ct → Q (.ref p) H') :
    ∀ p F' H', Gr F1 H1 F' H' → H1 p = none → F' p = none → Own1 K F' H' p ct → Q (.ref p) H' := fun p F2 H2 g hp fp o => q p F2 H2 (x1.trans g.f) (e1.grow g) fp (e1.fr.there p hp) (not_owns_new e1 hp) o
theorem pn_bi (hc : CallR X (.builtin id) r) (hf : FnN X.K r ds ct) (ha : AD X (e :: es) ρ ds ρ1) (hm : X.mg w = none) (hv : bootBuiltins w = some (.builtin id) := by rfl) (hg : Gl X w := by rfl) (hn : w ≠ "__name__" := by decide) (hdb : (w == ("__debug__" : Str)) = false := by decide)
    (he : starEach (e :: es) X.env = (false, eval e X.env) :: starEach es X.env := by rfl) (hpl : (backTo pos (starEach es X.env)).any (·.1) = false := by rfl) : PN X (.Call (.Name w p) (e :: es) [] pos) ρ ct ρ1 :=
  PE_imp (pe_callB hc hg hm hv ha hn hdb he hpl) fun σ H Q ⟨C, F, se, q⟩ => ⟨C, F, se, fun vs F1 H1 x1 e1 r1 => hf F1 H1 vs Q e1.fr.ext r1 (pn_of x1 e1 q)⟩
theorem pn_ty (hc : CallR X (.type T) r) (hf : FnN X.K r ds ct) (ha : AD X (e :: es) ρ ds ρ1) (hm : X.mg w = none) (hv : bootBuiltins w = some (.type T) := by rfl) (hg : Gl X w := by rfl) (hn : w ≠ "__name__" := by decide) (hdb : (w == ("__debug__" : Str)) = false := by decide)
    (he : starEach (e :: es) X.env = (false, eval e X.env) :: starEach es X.env := by rfl) (hpl : (backTo pos (starEach es X.env)).any (·.1) = false := by rfl) : PN X (.Call (.Name w p) (e :: es) [] pos) ρ ct ρ1 :=
  PE_imp (pe_callTy hc hg hm hv ha hn hdb he hpl) fun σ H Q ⟨C, F, se, q⟩ => ⟨C, F, se, fun vs F1 H1 x1 e1 r1 => hf F1 H1 vs Q e1.fr.ext r1 (pn_of x1 e1 q)⟩
theorem ad_one (h : PD X e ρ x ρ1) (hs : starEach [e] X.env = (false, eval e X.env) :: starEach [] X.env := by rfl) : AD X [e] ρ [x] ρ1 := ad_cons h ad_nil hs
theorem ad_two (ha : PD X a ρ x ρ1) (hb : PD X b ρ1 y ρ2) (hs : starEach [a, b] X.env = (false, eval a X.env) :: starEach [b] X.env := by rfl) (hs2 : starEach [b] X.env = (false, eval b X.env) :: starEach [] X.env := by rfl) : AD X [a, b] ρ [x, y] ρ2 := ad_cons ha (ad_one hb hs2) hs

/-! ### ints -/
theorem pd_abs (hm : X.mg ("abs" : Str) = none) (ha : PD X a ρ (.int i) ρ1) (hg : Gl X "abs" := by rfl) (he : starEach [a] X.env = (false, eval a X.env) :: starEach [] X.env := by rfl) : PD X (.Call (.Name "abs" p) [a] [] pos) ρ (.int (i.natAbs : Int)) ρ1 :=
  pd_bi call_abs (fun F H vs Q e r q => by
    obtain ⟨v, rfl, h⟩ := rpa_one r
    rw [rp_int h]
    refine ⟨i, rfl, q _ F H (.refl e) ?_⟩
    rw [show (if i < 0 then -i else i) = (i.natAbs : Int) by split <;> omega]
    exact .int _) (ad_one ha he) hm rfl hg (by decide) (by decide) he
theorem pd_int1 (hm : X.mg ("int" : Str) = none) (ha : PD X a ρ (.int i) ρ1) (hg : Gl X "int" := by rfl) (he : starEach [a] X.env = (false, eval a X.env) :: starEach [] X.env := by rfl) : PD X (.Call (.Name "int" p) [a] [] pos) ρ (.int i) ρ1 :=
  pd_ty call_int1 (fun F H vs Q e r q => by
    obtain ⟨v, rfl, h⟩ := rpa_one r
    rw [rp_int h]
    exact .inl ⟨i, rfl, q _ F H (.refl e) (.int _)⟩) (ad_one ha he) hm rfl hg (by decide) (by decide) he
theorem pd_max2 (hc : X.calm = true) (hm : X.mg ("max" : Str) = none) (ha : PD X a ρ (.int i) ρ1) (hb : PD X b ρ1 (.int j) ρ2) (hg : Gl X "max" := by rfl) (he : starEach [a, b] X.env = (false, eval a X.env) :: starEach [b] X.env := by rfl) (he2 : starEach [b] X.env = (false, eval b X.env) :: starEach [] X.env := by rfl) (hpl : (backTo pos (starEach [b] X.env)).any (·.1) = false := by rfl) :
    PD X (.Call (.Name "max" p) [a, b] [] pos) ρ (.int (max i j)) ρ2 :=
  pd_bi (call_max2 hc) (fun F H vs Q e r q => by
    obtain ⟨v, w, rfl, h, h'⟩ := rpa_two r
    rw [rp_int h, rp_int h']
    refine ⟨i, j, rfl, q _ F H (.refl e) ?_⟩
    rw [show (if j > i then j else i) = max i j by omega]
    exact .int _) (ad_two ha hb he he2) hm rfl hg (by decide) (by decide) he hpl
theorem pd_min2 (hc : X.calm = true) (hm : X.mg ("min" : Str) = none) (ha : PD X a ρ (.int i) ρ1) (hb : PD X b ρ1 (.int j) ρ2) (hg : Gl X "min" := by rfl) (he : starEach [a, b] X.env = (false, eval a X.env) :: starEach [b] X.env := by rfl) (he2 : starEach [b] X.env = (false, eval b X.env) :: starEach [] X.env := by rfl) (hpl : (backTo pos (starEach [b] X.env)).any (·.1) = false := by rfl) :
    PD X (.Call (.Name "min" p) [a, b] [] pos) ρ (.int (min i j)) ρ2 :=
  pd_bi (call_min2 hc) (fun F H vs Q e r q => by
    obtain ⟨v, w, rfl, h, h'⟩ := rpa_two r
    rw [rp_int h, rp_int h']
    refine ⟨i, j, rfl, q _ F H (.refl e) ?_⟩
    rw [show (if j < i then j else i) = min i j by omega]
    exact .int _) (ad_two ha hb he he2) hm rfl hg (by decide) (by decide) he hpl
theorem pd_mulW (hc : CMulW i j) (ha : PD X a ρ (.int i) ρ1) (hb : PD X b ρ1 (.int j) ρ2) : PD X (.BinOp a .Mult b pos) ρ (.int (i * j)) ρ2 := pd_op op_mulW (opd_I hc fun _ => .int _) ha hb
/-- // and % of any int by a small one -/
theorem pd_fdivN (hc : CDivN i j) (ha : PD X a ρ (.int i) ρ1) (hb : PD X b ρ1 (.int j) ρ2) : PD X (.BinOp a .FloorDiv b pos) ρ (.int (i.fdiv j)) ρ2 := pd_op op_fdivN (opd_I hc fun _ => .int _) ha hb
/-- a op b op c, of ints -/
def cmpI : CmpOp → Option (Int → Int → Bool)
  | .Lt => some fun i j => decide (i < j)
  | .LtE => some fun i j => decide (i ≤ j)
  | .Gt => some fun i j => decide (j < i)
  | .GtE => some fun i j => decide (j ≤ i)
  | _ => none
theorem op_cmpI {op : CmpOp} {f : Int → Int → Bool} (h : cmpI op = some f) : OpR X (compareOp op) (rI0 fun i j => .bl (f i j)) := by
  cases op <;> first | (cases h; first | exact op_lt | exact op_le | exact op_gt | exact op_ge) | cases h
theorem pd_chain {op op' : CmpOp} {f g : Int → Int → Bool} {l : Int} (hf : cmpI op = some f) (hg : cmpI op' = some g) (ha : PD X a ρ (.int i) ρ1) (hb : PD X b ρ1 (.int j) ρ2) (hc : f i j = true → PD X c ρ2 (.int l) ρ2)
    (hm : lastMarks [op, op'] [b, c] = false := by with_unfolding_all rfl) : PD X (.Compare a [op, op'] [b, c] pos) ρ (.bool (f i j && g j l)) ρ2 := by
  cases q : f i j with
  | true =>
    refine PE_imp (pe_chain (op_cmpI hf) (op_cmpI hg) ha hb (hc q) hm) fun σ H Q ⟨C, F, se, qq⟩ => ⟨C, F, se, fun v F1 H1 x1 e1 r1 => ⟨C, F1, e1, fun u F2 H2 x2 e2 r2 => ⟨i, j, rp_int r1, rp_int r2, true, congrArg V.bl q, ?_⟩⟩⟩
    rw [if_pos rfl]
    exact ⟨C, F2, e2, fun t F3 H3 x3 e3 r3 => ⟨j, l, rp_int r2, rp_int r3, qq _ F3 H3 (x1.trans (x2.trans x3)) e3 (by rw [Bool.true_and]; exact .bl _)⟩⟩
  | false =>
    have hc' : PE X c (fun _ _ _ => False) := ⟨fun _ _ _ _ _ _ h => h.elim⟩
    refine PE_imp (pe_chain (op_cmpI hf) (op_cmpI hg) ha hb hc' hm) fun σ H Q ⟨C, F, se, qq⟩ => ⟨C, F, se, fun v F1 H1 x1 e1 r1 => ⟨C, F1, e1, fun u F2 H2 x2 e2 r2 => ⟨i, j, rp_int r1, rp_int r2, false, congrArg V.bl q, ?_⟩⟩⟩
    rw [if_neg Bool.false_ne_true]
    exact qq _ F2 H2 (x1.trans x2) e2 (.bl _)
theorem td_chain {op op' : CmpOp} {f g : Int → Int → Bool} {l : Int} (hf : cmpI op = some f) (hg : cmpI op' = some g) (ha : PD X a ρ (.int i) ρ1) (hb : PD X b ρ1 (.int j) ρ2) (hc : f i j = true → PD X c ρ2 (.int l) ρ2)
    (hm : lastMarks [op, op'] [b, c] = false := by with_unfolding_all rfl) : TD X (.Compare a [op, op'] [b, c] pos) ρ (f i j && g j l) ρ2 := by
  cases q : f i j with
  | true =>
    refine PT_imp (pt_chain (op_cmpI hf) (op_cmpI hg) ha hb (hc q) hm) fun σ H Q ⟨C, F, se, qq⟩ => ⟨C, F, se, fun v F1 H1 x1 e1 r1 => ⟨C, F1, e1, fun u F2 H2 x2 e2 r2 => ⟨i, j, rp_int r1, rp_int r2, true, congrArg V.bl q, ?_⟩⟩⟩
    rw [if_pos rfl]
    exact ⟨C, F2, e2, fun t F3 H3 x3 e3 r3 => ⟨j, l, rp_int r2, rp_int r3, _, rfl, qq F3 H3 (x1.trans (x2.trans x3)) e3⟩⟩
  | false =>
    have hc' : PE X c (fun _ _ _ => False) := ⟨fun _ _ _ _ _ _ h => h.elim⟩
    refine PT_imp (pt_chain (op_cmpI hf) (op_cmpI hg) ha hb hc' hm) fun σ H Q ⟨C, F, se, qq⟩ => ⟨C, F, se, fun v F1 H1 x1 e1 r1 => ⟨C, F1, e1, fun u F2 H2 x2 e2 r2 => ⟨i, j, rp_int r1, rp_int r2, false, congrArg V.bl q, ?_⟩⟩⟩
    rw [if_neg Bool.false_ne_true]
    exact ⟨_, rfl, qq F2 H2 (x1.trans x2) e2⟩

/-! ### lists -/
theorem pd_len {src : Option Nat} (hm : X.mg ("len" : Str) = none) (h : PQ X a ρ src xs ρ1) (ok : SrcOk ρ1 src xs) (hg : Gl X "len" := by rfl) (he : starEach [a] X.env = (false, eval a X.env) :: starEach [] X.env := by rfl) : PD X (.Call (.Name "len" p) [a] [] pos) ρ (.int (xs.length : Int)) ρ1 :=
  PE_imp (pe_callB call_len hg hm rfl (pa_cons h pa_nil he) (by decide) (by decide) he) fun σ H Q ⟨C, F, se, q⟩ => ⟨C, F, se, fun v F1 H1 x1 e1 r1 => by
    obtain ⟨a, vs, rfl, l, rr⟩ := r1.look e1 ok
    exact ⟨_, _, rfl, .inl ⟨vs, l, rfl⟩, q _ F1 H1 x1 e1 (by rw [rr.length]; exact .int _)⟩⟩
theorem pd_lenT (hm : X.mg ("len" : Str) = none) (h : PD X a ρ (.tuple xs) ρ1) (hg : Gl X "len" := by rfl) (he : starEach [a] X.env = (false, eval a X.env) :: starEach [] X.env := by rfl) : PD X (.Call (.Name "len" p) [a] [] pos) ρ (.int (xs.length : Int)) ρ1 :=
  pd_bi call_len (fun F H vs Q e r q => by
    obtain ⟨v, rfl, h⟩ := rpa_one r
    cases h with
    | tup h1 h2 => exact ⟨_, _, rfl, .inr ⟨_, e.t h1, rfl⟩, q _ F H (.refl e) (by rw [h2.length]; exact .int _)⟩) (ad_one h he) hm rfl hg (by decide) (by decide) he
theorem pd_lenS (hl : s.length ≤ sizeLine) (hm : X.mg ("len" : Str) = none) (h : PD X a ρ (.str s) ρ1) (hg : Gl X "len" := by rfl) (he : starEach [a] X.env = (false, eval a X.env) :: starEach [] X.env := by rfl) : PD X (.Call (.Name "len" p) [a] [] pos) ρ (.int (s.length : Int)) ρ1 :=
  pd_bi call_len (fun F H vs Q e r q => by
    obtain ⟨v, rfl, h⟩ := rpa_one r
    rw [rp_str h]
    exact ⟨_, _, rfl, ⟨hl, rfl⟩, q _ F H (.refl e) (.int _)⟩) (ad_one h he) hm rfl hg (by decide) (by decide) he
theorem pn_list {src : Option Nat} (hm : X.mg ("list" : Str) = none) (h : PQ X a ρ src xs ρ1) (ok : SrcOk ρ1 src xs) (hg : Gl X "list" := by rfl) (he : starEach [a] X.env = (false, eval a X.env) :: starEach [] X.env := by rfl) : PN X (.Call (.Name "list" p) [a] [] pos) ρ (.l xs) ρ1 :=
  PE_imp (pe_callTy call_list_of hg hm rfl (pa_cons h pa_nil he) (by decide) (by decide) he) fun σ H Q ⟨C, F, se, q⟩ => ⟨C, F, se, fun v F1 H1 x1 e1 r1 => by
    obtain ⟨a, vs, rfl, l, rr⟩ := r1.look e1 ok
    refine ⟨a, vs, rfl, .inl l, fun p hp => ?_⟩
    obtain ⟨h1, h2, h3, h4⟩ := e1.lay (o := .lst vs) hp
    exact q p F1 _ x1 h1 h2 h3 h4 ⟨vs, upd_same, rr⟩⟩
theorem pn_listT (hm : X.mg ("list" : Str) = none) (h : PD X a ρ (.tuple xs) ρ1) (hg : Gl X "list" := by rfl) (he : starEach [a] X.env = (false, eval a X.env) :: starEach [] X.env := by rfl) : PN X (.Call (.Name "list" p) [a] [] pos) ρ (.l xs) ρ1 :=
  PE_imp (pe_callTy call_list_of hg hm rfl (pa_cons h pa_nil he) (by decide) (by decide) he) fun σ H Q ⟨C, F, se, q⟩ => ⟨C, F, se, fun v F1 H1 x1 e1 r1 => by
    cases r1 with
    | @tup a vs _ l rr =>
      refine ⟨a, vs, rfl, .inr (e1.fr.ext.t l), fun p hp => ?_⟩
      obtain ⟨h1, h2, h3, h4⟩ := e1.lay (o := .lst vs) hp
      exact q p F1 _ x1 h1 h2 h3 h4 ⟨vs, upd_same, rr⟩⟩
theorem pd_tuple {src : Option Nat} (hm : X.mg ("tuple" : Str) = none) (h : PQ X a ρ src xs ρ1) (ok : SrcOk ρ1 src xs) (hg : Gl X "tuple" := by rfl) (he : starEach [a] X.env = (false, eval a X.env) :: starEach [] X.env := by rfl) : PD X (.Call (.Name "tuple" p) [a] [] pos) ρ (.tuple xs) ρ1 :=
  PE_imp (pe_callTy call_tuple_of hg hm rfl (pa_cons h pa_nil he) (by decide) (by decide) he) fun σ H Q ⟨C, F, se, q⟩ => ⟨C, F, se, fun v F1 H1 x1 e1 r1 => by
    obtain ⟨a, vs, rfl, l, rr⟩ := r1.look e1 ok
    refine ⟨a, vs, rfl, .inl ⟨l, fun p hp => ?_⟩⟩
    exact q (.ref p) _ _ (x1.trans (.new (e1.fr.ext.none hp))) (e1.grow (.push e1.fr.ext hp)) (.tup (SqT.of upd_same) (rr.mono (.new (e1.fr.ext.none hp))))⟩
/-- of ints: their greatest, their least -/
def lmax (ns : List Int) : Int := match ns with | [] => 0 | n :: r => r.foldl max n
def lmin (ns : List Int) : Int := match ns with | [] => 0 | n :: r => r.foldl min n
theorem fmax_le : ∀ (r : List Int) (n : Int), n ≤ r.foldl max n ∧ (∀ y ∈ r, y ≤ r.foldl max n) ∧ (r.foldl max n = n ∨ r.foldl max n ∈ r)
  | [], n => ⟨Int.le_refl _, (fun y hy => nomatch hy), .inl rfl⟩
  | m :: r, n => by
    obtain ⟨h1, h2, h3⟩ := fmax_le r (max n m)
    refine ⟨?_, fun y hy => ?_, ?_⟩
    · show n ≤ r.foldl max (max n m); omega
    · show y ≤ r.foldl max (max n m)
      rcases List.mem_cons.mp hy with z | z
      · omega
      · exact h2 y z
    · show r.foldl max (max n m) = n ∨ r.foldl max (max n m) ∈ m :: r
      rcases h3 with z | z
      · rw [z]
        by_cases q : n ≤ m
        · exact .inr (by rw [show max n m = m by omega]; exact List.mem_cons_self)
        · exact .inl (by omega)
      · exact .inr (List.mem_cons_of_mem _ z)
theorem fmin_le : ∀ (r : List Int) (n : Int), r.foldl min n ≤ n ∧ (∀ y ∈ r, r.foldl min n ≤ y) ∧ (r.foldl min n = n ∨ r.foldl min n ∈ r)
  | [], n => ⟨Int.le_refl _, (fun y hy => nomatch hy), .inl rfl⟩
  | m :: r, n => by
    obtain ⟨h1, h2, h3⟩ := fmin_le r (min n m)
    refine ⟨?_, fun y hy => ?_, ?_⟩
    · show r.foldl min (min n m) ≤ n; omega
    · show r.foldl min (min n m) ≤ y
      rcases List.mem_cons.mp hy with z | z
      · omega
      · exact h2 y z
    · show r.foldl min (min n m) = n ∨ r.foldl min (min n m) ∈ m :: r
      rcases h3 with z | z
      · rw [z]
        by_cases q : m ≤ n
        · exact .inr (by rw [show min n m = m by omega]; exact List.mem_cons_self)
        · exact .inl (by omega)
      · exact .inr (List.mem_cons_of_mem _ z)
theorem lmax_mem {ns : List Int} (h : 0 < ns.length) : lmax ns ∈ ns := by
  cases ns with
  | nil => simp at h
  | cons n r =>
    rcases (fmax_le r n).2.2 with z | z
    · show r.foldl max n ∈ n :: r
      rw [z]; exact List.mem_cons_self
    · exact List.mem_cons_of_mem _ z
theorem lmax_le {ns : List Int} : ∀ y ∈ ns, y ≤ lmax ns := by
  cases ns with
  | nil => intro y h; cases h
  | cons n r =>
    intro y h
    rcases List.mem_cons.mp h with z | z
    · rw [z]; exact (fmax_le r n).1
    · exact (fmax_le r n).2.1 y z
theorem lmin_mem {ns : List Int} (h : 0 < ns.length) : lmin ns ∈ ns := by
  cases ns with
  | nil => simp at h
  | cons n r =>
    rcases (fmin_le r n).2.2 with z | z
    · show r.foldl min n ∈ n :: r
      rw [z]; exact List.mem_cons_self
    · exact List.mem_cons_of_mem _ z
theorem lmin_le {ns : List Int} : ∀ y ∈ ns, lmin ns ≤ y := by
  cases ns with
  | nil => intro y h; cases h
  | cons n r =>
    intro y h
    rcases List.mem_cons.mp h with z | z
    · rw [z]; exact (fmin_le r n).1
    · exact (fmin_le r n).2.1 y z
theorem pd_sum {ns : List Int} {src : Option Nat} (hc : X.calm = true) (hm : X.mg ("sum" : Str) = none) (h : PQ X a ρ src (ns.map .int) ρ1) (ok : SrcOk ρ1 src (ns.map .int)) (hg : Gl X "sum" := by rfl) (he : starEach [a] X.env = (false, eval a X.env) :: starEach [] X.env := by rfl) : PD X (.Call (.Name "sum" p) [a] [] pos) ρ (.int ns.sum) ρ1 :=
  PE_imp (pe_callB (cr_sum hc) hg hm rfl (pa_cons h pa_nil he) (by decide) (by decide) he) fun σ H Q ⟨C, F, se, q⟩ => ⟨C, F, se, fun v F1 H1 x1 e1 r1 => by
    obtain ⟨a, vs, rfl, l, rr⟩ := r1.look e1 ok
    rw [rr.ints_inv] at l
    exact ⟨_, ns, rfl, l, q _ F1 H1 x1 e1 (.int _)⟩⟩
theorem pd_maxL {ns : List Int} {src : Option Nat} (hc : X.calm = true) (hm : X.mg ("max" : Str) = none) (hn : 0 < ns.length) (h : PQ X a ρ src (ns.map .int) ρ1) (ok : SrcOk ρ1 src (ns.map .int)) (hg : Gl X "max" := by rfl) (he : starEach [a] X.env = (false, eval a X.env) :: starEach [] X.env := by rfl) : PD X (.Call (.Name "max" p) [a] [] pos) ρ (.int (lmax ns)) ρ1 :=
  PE_imp (pe_callB (cr_max hc) hg hm rfl (pa_cons h pa_nil he) (by decide) (by decide) he) fun σ H Q ⟨C, F, se, q⟩ => ⟨C, F, se, fun v F1 H1 x1 e1 r1 => by
    obtain ⟨a, vs, rfl, l, rr⟩ := r1.look e1 ok
    rw [rr.ints_inv] at l
    refine ⟨_, ns, rfl, l, hn, fun m m1 m2 => q _ F1 H1 x1 e1 ?_⟩
    have := m2 _ (lmax_mem hn)
    have := lmax_le m m1
    rw [show lmax ns = m by omega]
    exact .int _⟩
theorem pd_minL {ns : List Int} {src : Option Nat} (hc : X.calm = true) (hm : X.mg ("min" : Str) = none) (hn : 0 < ns.length) (h : PQ X a ρ src (ns.map .int) ρ1) (ok : SrcOk ρ1 src (ns.map .int)) (hg : Gl X "min" := by rfl) (he : starEach [a] X.env = (false, eval a X.env) :: starEach [] X.env := by rfl) : PD X (.Call (.Name "min" p) [a] [] pos) ρ (.int (lmin ns)) ρ1 :=
  PE_imp (pe_callB (cr_min hc) hg hm rfl (pa_cons h pa_nil he) (by decide) (by decide) he) fun σ H Q ⟨C, F, se, q⟩ => ⟨C, F, se, fun v F1 H1 x1 e1 r1 => by
    obtain ⟨a, vs, rfl, l, rr⟩ := r1.look e1 ok
    rw [rr.ints_inv] at l
    refine ⟨_, ns, rfl, l, hn, fun m m1 m2 => q _ F1 H1 x1 e1 ?_⟩
    have := m2 _ (lmin_mem hn)
    have := lmin_le m m1
    rw [show lmin ns = m by omega]
    exact .int _⟩
theorem pd_any {bs : List Bool} {src : Option Nat} (hc : X.calm = true) (hm : X.mg ("any" : Str) = none) (h : PQ X a ρ src (bs.map .bool) ρ1) (ok : SrcOk ρ1 src (bs.map .bool)) (hg : Gl X "any" := by rfl) (he : starEach [a] X.env = (false, eval a X.env) :: starEach [] X.env := by rfl) : PD X (.Call (.Name "any" p) [a] [] pos) ρ (.bool (bs.any fun b => b)) ρ1 :=
  PE_imp (pe_callB (cr_any hc) hg hm rfl (pa_cons h pa_nil he) (by decide) (by decide) he) fun σ H Q ⟨C, F, se, q⟩ => ⟨C, F, se, fun v F1 H1 x1 e1 r1 => by
    obtain ⟨a, vs, rfl, l, rr⟩ := r1.look e1 ok
    rw [rr.bls_inv] at l
    exact ⟨_, bs, rfl, l, q _ F1 H1 x1 e1 (.bl _)⟩⟩
theorem pd_all {bs : List Bool} {src : Option Nat} (hc : X.calm = true) (hm : X.mg ("all" : Str) = none) (h : PQ X a ρ src (bs.map .bool) ρ1) (ok : SrcOk ρ1 src (bs.map .bool)) (hg : Gl X "all" := by rfl) (he : starEach [a] X.env = (false, eval a X.env) :: starEach [] X.env := by rfl) : PD X (.Call (.Name "all" p) [a] [] pos) ρ (.bool (bs.all fun b => b)) ρ1 :=
  PE_imp (pe_callB (cr_all hc) hg hm rfl (pa_cons h pa_nil he) (by decide) (by decide) he) fun σ H Q ⟨C, F, se, q⟩ => ⟨C, F, se, fun v F1 H1 x1 e1 r1 => by
    obtain ⟨a, vs, rfl, l, rr⟩ := r1.look e1 ok
    rw [rr.bls_inv] at l
    exact ⟨_, bs, rfl, l, q _ F1 H1 x1 e1 (.bl _)⟩⟩
/-- list + list, wherever they stand -/
def rCatL (K : PySem.W.Frag) : R2 := fun x y H Q => ∃ l b xs zs, x = .ref l ∧ y = .ref b ∧ SqL K H l xs ∧ SqL K H b zs ∧ xs.length + zs.length ≤ sizeLine ∧ ∀ p, H p = none → Q (.ref p) (upd H p (.lst (xs ++ zs)))
theorem op_catL : OpR X (binaryOp .Add) (rCatL X.K) := by
  intro pins s σ H x y v u Q I rx ry h
  obtain ⟨l, b, xs, zs, rfl, rfl, hH, hB, hz, q⟩ := h
  cases rx
  cases ry
  obtain ⟨its, r, hl, _⟩ := I.list hH
  obtain ⟨its2, r2, hb, _⟩ := I.list hB
  obtain ⟨⟨cls, dd, data, sl⟩, ho, hc, n, hd⟩ := id hl.isList
  obtain ⟨⟨cls2, dd2, data2, sl2⟩, ho2, hc2, n2, hd2⟩ := id hb.isList
  simp only at hc hd hc2 hd2
  subst hc hd hc2 hd2
  have e : its.toArray ++ its2.toArray = (its ++ its2).toArray := by simp
  have l1 := r.length
  have l2 := r2.length
  refine concat_meets ⟨_, ho, rfl⟩ ⟨_, ho2, rfl⟩ noFill_list_add seq_list_add PySem.F.slot_list_add PySem.F.entry_list_add (PySem.F.args_list_add_2 _ _) (list_addW l b its.toArray its2.toArray n n2 dd dd2 sl sl2 (by rw [List.size_toArray, List.size_toArray]; omega)) ⟨ho, ho2, ?_⟩
  rw [e]
  exact ⟨.ref _, _, I.lnew (t' := s.toks) (r.append r2) (by rw [List.length_append]; omega), rfl, q _ I.fresh⟩
theorem pn_cat {sa sb : Option Nat} (ha : PQ X a ρ sa xs ρ1) (oa : SrcOk ρ2 sa xs) (hb : PQ X b ρ1 sb ys ρ2) (ob : SrcOk ρ2 sb ys) (hl : xs.length + ys.length ≤ 100000) : PN X (.BinOp a .Add b pos) ρ (.l (xs ++ ys)) ρ2 :=
  PE_imp (pe_op op_catL ha hb) fun σ H Q ⟨C, F, se, q⟩ => ⟨C, F, se, fun v F1 H1 x1 e1 r1 => ⟨C, F1, e1, fun w F2 H2 x2 e2 r2 => by
    obtain ⟨a, vs, rfl, l1, rr1⟩ := (r1.mono x2).look e2 oa
    obtain ⟨b, ws, rfl, l2, rr2⟩ := r2.look e2 ob
    refine ⟨a, b, vs, ws, rfl, rfl, l1, l2, by rw [rr1.length, rr2.length]; exact line_of hl, fun p hp => ?_⟩
    obtain ⟨h1, h2, h3, h4⟩ := e2.lay (o := .lst (vs ++ ws)) hp
    exact q p F2 _ (x1.trans x2) h1 h2 h3 h4 ⟨vs ++ ws, upd_same, rr1.append rr2⟩⟩⟩
/-- xs[lo:hi] -/
def cutD (xs : List PyData) (lo hi : Option Int) : List PyData := (xs.drop (HT.sIx xs.length 0 lo)).take (HT.sIx xs.length xs.length hi - HT.sIx xs.length 0 lo)
abbrev OD (X : Cx) (e : Option Expr) (ρ : En) (o : Option Int) (ρ' : En) : Prop := PO X e (fun σ H Q => ∃ C F, SE X.K C F H σ ρ ∧ ∀ F' H', Ex F F' → SE X.K C F' H' σ ρ' → Q o H')
theorem PO_imp {o : Option Expr} {t t' : TO} (h : PO X o t) (i : ∀ σ H Q, t' σ H Q → t σ H Q) : PO X o t' := ⟨fun pins s σ H Q I q => h.run pins s σ H Q I (i _ _ _ q)⟩
theorem od_none : OD X none ρ none ρ := PO_imp po_none fun σ H Q ⟨C, F, se, q⟩ => q F H (.refl _) se
theorem od_some (h : PD X e ρ (.int i) ρ1) : OD X (some e) ρ (some i) ρ1 := PO_imp (po_some h) fun σ H Q ⟨C, F, se, q⟩ => ⟨C, F, se, fun v F1 H1 x1 e1 r1 => ⟨i, rp_int r1, q F1 H1 x1 e1⟩⟩
theorem pn_slice {src : Option Nat} {lo hi : Option Expr} {ol oh : Option Int} {p2 : Pos} (h : PQ X e ρ src xs ρ1) (hl : OD X lo ρ1 ol ρ2) (hh : OD X hi ρ2 oh ρ3) (ok : SrcOk ρ3 src xs) : PN X (.Subscript e (.Slice lo hi none p2) pos) ρ (.l (cutD xs ol oh)) ρ3 :=
  PE_imp (pe_slice sl_list h hl hh) fun σ H Q ⟨C, F, se, q⟩ => ⟨C, F, se, fun v F1 H1 x1 e1 r1 => ⟨C, F1, e1, fun F2 H2 x2 e2 => ⟨C, F2, e2, fun F3 H3 x3 e3 => by
    obtain ⟨a, vs, rfl, l, rr⟩ := (r1.mono (x2.trans x3)).look e3 ok
    refine ⟨a, vs, rfl, l, fun p hp => ?_⟩
    obtain ⟨h1, h2, h3, h4⟩ := e3.lay (o := .lst (cutV vs ol oh)) hp
    refine q p F3 _ (x1.trans (x2.trans x3)) h1 h2 h3 h4 ⟨_, upd_same, ?_⟩
    unfold cutV cutD
    rw [rr.length]
    exact (rr.drop _).take _⟩⟩⟩
/-! ### truth of values -/
theorem td_truthL {src : Option Nat} (h : PQ X a ρ src xs ρ1) (ok : SrcOk ρ1 src xs) (he : ∀ whole, isTrue a X.env whole = (do let v ← whole; standAt a.pos; holding [v] (truthy v)) := by intro _; rfl) : TD X a ρ (!xs.isEmpty) ρ1 :=
  PT_imp (pt_truth h he) fun σ H Q ⟨C, F, se, q⟩ => ⟨C, F, se, fun v F1 H1 x1 e1 r1 => by
    obtain ⟨a, vs, rfl, l, rr⟩ := r1.look e1 ok
    refine ⟨_, .inl ⟨vs, l, rfl⟩, ?_⟩
    rw [show vs.isEmpty = xs.isEmpty by cases rr <;> rfl]
    exact q F1 H1 x1 e1⟩
theorem td_truthI (h : PD X a ρ (.int i) ρ1) (he : ∀ whole, isTrue a X.env whole = (do let v ← whole; standAt a.pos; holding [v] (truthy v)) := by intro _; rfl) : TD X a ρ (i != 0) ρ1 :=
  PT_imp (pt_truth h he) fun σ H Q ⟨C, F, se, q⟩ => ⟨C, F, se, fun v F1 H1 x1 e1 r1 => by
    rw [rp_int r1]
    exact ⟨_, rfl, q F1 H1 x1 e1⟩⟩
theorem td_truthS (hl : s.length ≤ sizeLine) (h : PD X a ρ (.str s) ρ1) (he : ∀ whole, isTrue a X.env whole = (do let v ← whole; standAt a.pos; holding [v] (truthy v)) := by intro _; rfl) : TD X a ρ ((s.length : Int) != 0) ρ1 :=
  PT_imp (pt_truth h he) fun σ H Q ⟨C, F, se, q⟩ => ⟨C, F, se, fun v F1 H1 x1 e1 r1 => by
    rw [rp_str r1]
    exact ⟨_, ⟨hl, rfl⟩, q F1 H1 x1 e1⟩⟩
theorem td_truthT (h : PD X a ρ (.tuple xs) ρ1) (he : ∀ whole, isTrue a X.env whole = (do let v ← whole; standAt a.pos; holding [v] (truthy v)) := by intro _; rfl) : TD X a ρ (!xs.isEmpty) ρ1 :=
  PT_imp (pt_truth h he) fun σ H Q ⟨C, F, se, q⟩ => ⟨C, F, se, fun v F1 H1 x1 e1 r1 => by
    cases r1 with
    | @tup a vs _ h1 h2 =>
      refine ⟨_, .inr (.inl ⟨vs, e1.fr.ext.t h1, rfl⟩), ?_⟩
      rw [show vs.isEmpty = xs.isEmpty by cases h2 <;> rfl]
      exact q F1 H1 x1 e1⟩

/-! ### isinstance -/
def tyD : PyData → String
  | .none => "NoneType"
  | .bool _ => "bool"
  | .int _ => "int"
  | .str _ => "str"
  | .list _ => "list"
  | .tuple _ => "tuple"
  | .dict _ => "dict"
def isDct : PyData → Bool
  | .dict _ => true
  | _ => false
theorem tyx_of {K : PySem.W.Frag} {F H : Hp} {v : V} {x : PyData} (hd : isDct x = false) (e : Ex F H) (r : Rp K F v x) : TyX K H v (.type (tyD x)) := by
  cases r with
  | non => exact .base .non
  | bl b => exact .base (.bl b)
  | int b => exact .base (.int b)
  | str b => exact .base (.str b)
  | lst h _ =>
    rcases h with h | ⟨o, its, n, hk, hc, _⟩
    · rcases h with h | ⟨o, h⟩
      · exact .base (.lst (e _ _ h))
      · exact .base (.frz (e _ _ h))
    · exact .kList hk hc
  | tup h _ =>
    rcases h with h | ⟨o, its, n, hk, hc, _⟩
    · rcases h with h | ⟨o, h⟩
      · exact .base (.tup (e _ _ h))
      · exact .fTuple (e _ _ h)
    · exact .kTuple hk hc
  | dK h _ => cases hd
  | dT h _ _ => cases hd
theorem pe_cls {n : Str} {T : String} (hm : X.mg n = none) (hv : bootBuiltins n = some (.type T)) (hg : Gl X n := by rfl) (hn : n ≠ "__name__" := by decide) (hdb : (n == ("__debug__" : Str)) = false := by decide) : PE X (.Name n pos) (tC (.ty T)) := pe_bltn hg hm hv rfl hn hdb
theorem pd_isi {k : Bool} (hd : isDct x = false) (hk : kitB (tyD x) T = some k) (hm : X.mg ("isinstance" : Str) = none) (hc : PE X c (tC (.ty T))) (ha : PD X a ρ x ρ1) (hg : Gl X "isinstance" := by rfl) (he : starEach [a, c] X.env = (false, eval a X.env) :: starEach [c] X.env := by rfl) (he2 : starEach [c] X.env = (false, eval c X.env) :: starEach [] X.env := by rfl)
    (hpl : (backTo pos (starEach [c] X.env)).any (·.1) = false := by rfl) : PD X (.Call (.Name "isinstance" p) [a, c] [] pos) ρ (.bool k) ρ1 :=
  PE_imp (pe_callB call_isi hg hm rfl (pa_cons ha (pa_cons hc pa_nil he2) he) (by decide) (by decide) he hpl) fun σ H Q ⟨C, F, se, q⟩ => ⟨C, F, se, fun v F1 H1 x1 e1 r1 =>
    ⟨v, .ty T, .type (tyD x), .type T, k, rfl, .ty T, tyx_of hd e1.fr.ext r1, kit_ty hk, q _ F1 H1 x1 e1 (.bl _)⟩⟩
/-- isinstance(x, (T, U)) -/
theorem pd_isi2 {d : Expr} {U : String} {k1 k2 : Bool} {x1 : _} (hd : isDct x = false) (hk : kitB (tyD x) T = some k1) (hk2 : kitB (tyD x) U = some k2) (hm : X.mg ("isinstance" : Str) = none) (hc : PE X c (tC (.ty T))) (hc2 : PE X d (tC (.ty U))) (ha : PD X a ρ x ρ1) (hg : Gl X "isinstance" := by rfl)
    (he : starEach [a, .Tuple [c, d] x1 pos'] X.env = (false, eval a X.env) :: starEach [.Tuple [c, d] x1 pos'] X.env := by rfl) (he2 : starEach [.Tuple [c, d] x1 pos'] X.env = (false, eval (.Tuple [c, d] x1 pos') X.env) :: starEach [] X.env := by rfl)
    (hs : starEach [c, d] X.env = (false, eval c X.env) :: starEach [d] X.env := by rfl) (hs2 : starEach [d] X.env = (false, eval d X.env) :: starEach [] X.env := by rfl)
    (hpl : (backTo pos (starEach [.Tuple [c, d] x1 pos'] X.env)).any (·.1) = false := by rfl) : PD X (.Call (.Name "isinstance" p) [a, .Tuple [c, d] x1 pos'] [] pos) ρ (.bool (k1 || k2)) ρ1 := by
  refine PE_imp (pe_callB call_isiT hg hm rfl (pa_cons ha (pa_cons (pe_tup (pa_cons hc (pa_cons hc2 pa_nil hs2) hs)) pa_nil he2) he) (by decide) (by decide) he hpl) fun σ H Q ⟨C, F, se, q⟩ => ⟨C, F, se, fun v F1 H1 x1 e1 r1 => ⟨line_of (show 2 ≤ 100000 by decide), fun tp hp => ?_⟩⟩
  refine ⟨v, tp, [.ty T, .ty U], .type (tyD x), [.type T, .type U], k1 || k2, rfl, upd_same, .cons (.ty T) (.cons (.ty U) .nil), ?_, ?_, ?_⟩
  · exact tyx_of hd (e1.fr.ext.trans (.new hp)) r1
  · refine kitAny_cons (kit_ty hk) (fun z => ?_) (fun z => by rw [z]; rfl)
    subst z
    refine kitAny_cons (kit_ty hk2) (fun z => ?_) (fun z => by rw [z]; rfl)
    subst z
    exact kitAny_nil
  · exact q _ F1 _ x1 (e1.lay hp).1 (.bl _)
end
end G

/-! GHead: a law's own call. -/
namespace G
open PySem PySem.Spec PyProof.Rows L2
theorem fn_shut {P : Program} {w : World} {K : PySem.W.Frag} {mg : Str → Option Value} {base : Heap} {k : Nat} {f : Addr} {fd : FuncData} {ps : List Str} {sp : Sp} (F : FnOk P w K mg base (L2.CX P w) k f fd ps sp) : FnOk P w K mg base CX0 k f fd ps (fun vs H Q _ => sp vs H Q E0) := by
  refine ⟨fun vs H Q E h => F.len vs H Q E0 h, fun A outer s H args us vs Q E hr he hb hv hs => codeAny_mono (F.run A outer s H args us vs Q E0 hr he hb hv hs) fun r s' hq => ?_⟩
  cases r with
  | error e =>
    obtain ⟨_, _, _, _, _, _, _, _, _, _, _, _, z⟩ := hq
    exact z.elim
  | ok fl => cases fl <;> exact hq
/-- what is asked of a law's def: true of every script -/
def LawS (ds : List PyData) (r : Res) : Prop := ∃ ns : List Int, ds = [.list (ns.map .int)] ∧ ns.length ≤ 63 ∧ r = .ret (.bool true)
theorem law_end {K : PySem.W.Frag} (H : Hp) (a : Addr) (ns : List Int) (hl : ns.length ≤ 63) (hS : SqL K H a (ns.map V.int)) : spD K LawS [.ref a] H (fun v _ => v = .bl true) E0 :=
  ⟨H, [.list (ns.map .int)], .ret (.bool true), .refl H, .cons (.lst hS (.ints ns)) .nil, ⟨ns, rfl, hl, rfl⟩, fun v F' H' g r => rp_bool r⟩
end G

/-! GTyped: the rules over typed data. -/
namespace G
open PySem PySem.Spec PyProof.Rows L2

/-! ### typed data -/
abbrev dL {α : Type} (f : α → PyData) (xs : List α) : PyData := .list (xs.map f)
abbrev dT2 {α β : Type} (f : α → PyData) (g : β → PyData) (p : α × β) : PyData := .tuple [f p.1, g p.2]
abbrev dT3 {α β γ : Type} (f : α → PyData) (g : β → PyData) (h : γ → PyData) (p : α × β × γ) : PyData := .tuple [f p.1, g p.2.1, h p.2.2]
abbrev dT4 {α β γ δ : Type} (f : α → PyData) (g : β → PyData) (h : γ → PyData) (j : δ → PyData) (p : α × β × γ × δ) : PyData := .tuple [f p.1, g p.2.1, h p.2.2.1, j p.2.2.2]
def dO {α : Type} (f : α → PyData) : Option α → PyData
  | none => .none
  | some a => f a
/-- xs[i] -/
def gI {α : Type} [Inhabited α] (xs : List α) (i : Int) : α := if i < 0 then xs[(i + xs.length).toNat]! else xs[i.toNat]!
theorem gI_nat {α : Type} [Inhabited α] {xs : List α} {n : Nat} : gI xs (n : Int) = xs[n]! := by
  unfold gI
  rw [if_neg (by omega), Int.toNat_natCast]
theorem gI_at {α : Type} [Inhabited α] {f : α → PyData} {xs : List α} {i : Int} (h : -(xs.length : Int) ≤ i ∧ i < xs.length) : atI (xs.map f) i = some (f (gI xs i)) := by
  have key : ∀ n : Nat, n < xs.length → (xs.map f)[n]? = some (f xs[n]!) := fun n hn => by
    rw [List.getElem?_map, List.getElem?_eq_getElem hn, getElem!_pos xs n hn]; rfl
  unfold atI ixN gI
  rw [List.length_map]
  by_cases q : 0 ≤ i
  · rw [if_pos q, if_pos h.2, if_neg (by omega)]
    exact key _ (by omega)
  · rw [if_neg q, if_pos h.1, if_pos (by omega)]
    exact key _ (by omega)
section
variable {X : Cx} {W : WX} {e a b c tg iter elt : Expr} {es : List Expr} {p pos pos' : Pos} {ρ ρ' ρ1 ρ2 ρ3 ρA ρB : En} {x y z : PyData} {st : Stmt} {rest A B body : List Stmt} {D : DE} {k k' : Bool} {i j : Int} {w : Str} {α β γ S R : Type} {f : α → PyData} {ns ms : List α}
theorem pd_cast (h : x = y) (hp : PD X e ρ x ρ') : PD X e ρ y ρ' := h ▸ hp
theorem td_cast (h : k = k') (hp : TD X e ρ k ρ') : TD X e ρ k' ρ' := h ▸ hp
theorem pn_cast {ct ct' : Ct} (h : ct = ct') (hp : PN X e ρ ct ρ') : PN X e ρ ct' ρ' := h ▸ hp
theorem pd_env (h : ρ1 = ρ2) (hp : PD X e ρ x ρ1) : PD X e ρ x ρ2 := h ▸ hp
theorem pd_gix [Inhabited α] {src : Option Nat} (h : -(ns.length : Int) ≤ i ∧ i < ns.length) (ok : SrcOk ρ2 src (ns.map f)) (ha : PQ X a ρ src (ns.map f) ρ1) (hb : PD X b ρ1 (.int i) ρ2) (hs : PlainIx b := by intro _ _; rfl) : PD X (.Subscript a b pos) ρ (f (gI ns i)) ρ2 := pd_ixL (gI_at h) ok ha hb hs
theorem pd_ift (f : α → PyData) (u v : α) (hc : TD X c ρ k ρ1) (ha : k = true → PD X a ρ1 (f u) ρ2) (hb : k = false → PD X b ρ1 (f v) ρ2) : PD X (.IfExp c a b pos) ρ (f (if k = true then u else v)) ρ2 := by
  have h := pd_if (pos := pos) hc ha hb
  cases k <;> exact h
theorem pn_catM {sa sb : Option Nat} (ha : PQ X a ρ sa (ns.map f) ρ1) (oa : SrcOk ρ2 sa (ns.map f)) (hb : PQ X b ρ1 sb (ms.map f) ρ2) (ob : SrcOk ρ2 sb (ms.map f)) (hl : ns.length + ms.length ≤ 100000) : PN X (.BinOp a .Add b pos) ρ (.l ((ns ++ ms).map f)) ρ2 := by
  rw [List.map_append]
  exact pn_cat ha oa hb ob (by rw [List.length_map, List.length_map]; exact hl)
/-- xs[lo:hi] -/
def cutG (xs : List α) (lo hi : Option Int) : List α := (xs.drop (HT.sIx xs.length 0 lo)).take (HT.sIx xs.length xs.length hi - HT.sIx xs.length 0 lo)
theorem pn_sliceM {src : Option Nat} {lo hi : Option Expr} {ol oh : Option Int} {p2 : Pos} (h : PQ X e ρ src (ns.map f) ρ1) (hl : OD X lo ρ1 ol ρ2) (hh : OD X hi ρ2 oh ρ3) (ok : SrcOk ρ3 src (ns.map f)) : PN X (.Subscript e (.Slice lo hi none p2) pos) ρ (.l ((cutG ns ol oh).map f)) ρ3 := by
  have := pn_slice (pos := pos) (p2 := p2) h hl hh ok
  unfold cutD at this
  rw [List.length_map, ← List.map_drop, ← List.map_take] at this
  exact this
theorem cutG_from (xs : List α) (n : Nat) (h : n ≤ xs.length) : cutG xs (some (n : Int)) none = xs.drop n := by
  unfold cutG
  rw [HT.sIx_nat, HT.sIx_none, Nat.min_eq_left h, List.take_of_length_le (by rw [List.length_drop]; omega)]
theorem cutG_to (xs : List α) (n : Nat) (h : n ≤ xs.length) : cutG xs none (some (n : Int)) = xs.take n := by
  unfold cutG
  rw [HT.sIx_nat, HT.sIx_none, Nat.min_eq_left h, List.drop_zero, Nat.sub_zero]
theorem cutG_mid (xs : List α) (m n : Nat) (h : m ≤ xs.length) (h2 : n ≤ xs.length) : cutG xs (some (m : Int)) (some (n : Int)) = (xs.drop m).take (n - m) := by
  unfold cutG
  rw [HT.sIx_nat, HT.sIx_nat, Nat.min_eq_left h, Nat.min_eq_left h2]
theorem sd_appendM {o : Str} {p1 p2 p3 : Pos} {pa pb : Option Addr} {ys : List PyData} {v : α} (i : Nat) (h0 : ρ[i]? = some (.o pa (.l ys))) (he : PD X e ρ (f v) ρ1) (h1 : ρ1[i]? = some (.o pb (.l (ns.map f)))) (hl : ns.length < 100000) (h : D.nx (ρ1.set i (.o pb (.l ((ns ++ [v]).map f)))))
    (hN : X.N[i]? = some o := by rfl) (hv : Vis X.env.scope o := by first | exact Or.inl rfl | exact Or.inr (Or.inl rfl) | exact Or.inr (Or.inr rfl)) (hd : (o == ("__debug__" : Str)) = false := by decide) (hcd : (o == ("__classdict__" : Str)) = false := by decide)
    (hbase : attributeBase (.Name o p1) "append" X.env (eval (.Name o p1) X.env) = eval (.Name o p1) X.env := by rfl)
    (hfew : ((backTo p3 (starEach [e] X.env)).all (fun x => !x.1) && (backToKw p3 (keywordEach [] X.env)).all (fun x => x.1.isSome)
      && decide ([e].length + ([] : List Keyword).length + (if ([] : List Keyword).isEmpty then 0 else 1) < 30)) = true := by rfl)
    (hline : (p2.endLine == p3.line) = true := by rfl) (hs : starEach [e] X.env = (false, eval e X.env) :: starEach [] X.env := by rfl)
    (hsw : swapsWith (.Call (.Attribute (.Name o p1) "append" p2) [e] [] p3) none pos.line X.env = pure false := by rfl) :
    SD X W (.Expr (.Call (.Attribute (.Name o p1) "append" p2) [e] [] p3) pos) ρ D := by
  refine sd_append i h0 he h1 (by rw [List.length_map]; exact hl) ?_ hN hv hd hcd hbase hfew hline hs hsw
  rw [List.map_append] at h
  exact h

/-! ### if, joined -/
/-- in each branch the same shape of slots -/
theorem bd_ite (ρM : En) (hc : TD X c ρ k ρ1) (ha : k = true → BD X W A ρ1 { D with nx := fun r => Le ρM r }) (hb : k = false → BD X W B ρ1 { D with nx := fun r => Le ρM r }) (hr : BD X W rest ρM D) : BD X W (.If c A B pos :: rest) ρ D :=
  bd_cut (fun r => Le ρM r) (sd_if hc ha hb) fun r l => bd_le l hr

/-! ### for, as a fold -/
theorem take_succ_of {xs : List α} {i : Nat} {a : α} (h : xs[i]? = some a) : xs.take (i + 1) = xs.take i ++ [a] := by
  rw [List.take_add_one, h]; rfl
theorem sd_forF (xs : List α) (td : α → PyData) (sh : S → En) (step : S → α → S) (s0 : S) (Pv : Nat → S → Prop) {ok : En → Prop} (hp : PassesOwn (model X.prog X.w) X.A X.env X.xe) (hc : X.calm = true) (hi : ID X tg iter ρ (xs.map td) ok none ρ1) (h0 : Le (sh s0) ρ1) (p0 : Pv 0 s0) (hok : ∀ s, ok (sh s))
    (hb : ∀ i s a, xs[i]? = some a → s = (xs.take i).foldl step s0 → Pv i s → ∃ ρ2, GD X tg (td a) (sh s) ρ2 ∧ BD X W body ρ2 { D with nx := fun r => Le (sh (step s a)) r ∧ Pv (i + 1) (step s a), ct := fun r => Le (sh (step s a)) r ∧ Pv (i + 1) (step s a), bk := D.nx })
    (hd : ∀ s, s = xs.foldl step s0 → Pv xs.length s → D.nx (sh s)) (hf : ∀ x, foldedSetIterable iter X.env x = pure x := by intro _; rfl) : SD X W (.For tg iter body [] pos) ρ D := by
  refine sd_for (fun i r => ∃ s, s = (xs.take i).foldl step s0 ∧ r = sh s ∧ Pv i s) hp hc hi ⟨_, h0, s0, by simp, rfl, p0⟩ (fun i r ⟨s, _, h, _⟩ => h ▸ hok s) ?_ ?_ hf
  · rintro i d r hd2 ⟨s, hs, rfl, pv⟩
    rw [List.getElem?_map] at hd2
    cases q : xs[i]? with
    | none => rw [q] at hd2; cases hd2
    | some a =>
      rw [q] at hd2; cases hd2
      obtain ⟨ρ2, g, bb⟩ := hb i s a q hs pv
      have nxt : ∀ r, Le (sh (step s a)) r ∧ Pv (i + 1) (step s a) → Lee (fun r => ∃ s, s = (xs.take (i + 1)).foldl step s0 ∧ r = sh s ∧ Pv (i + 1) s) r := fun r ⟨l, p⟩ => ⟨_, l, step s a, by rw [take_succ_of q, List.foldl_append, ← hs]; rfl, rfl, p⟩
      exact ⟨ρ2, g, bd_post { nx := nxt, ct := nxt } bb⟩
  · rintro r ⟨s, hs, rfl, pv⟩
    rw [List.length_map] at hs pv
    rw [List.take_length] at hs
    exact hd s hs pv
/-- the wishes within a loop that may give back, or raise, or break ahead of its end -/
def deE {α S R : Type} (D : DE) (xs : List α) (s0 : S) (step : S → α → Except R S) (s : S) (a : α) (nxt : En → Prop) : DE := { nx := nxt, ct := nxt, bk := fun r => ∃ q, step s a = .error q ∧ (xs.foldlM step s0 = .error q → D.nx r), rt := fun v r => ∃ q, step s a = .error q ∧ (xs.foldlM step s0 = .error q → D.rt v r), ex := fun v f r => ∃ q, step s a = .error q ∧ (xs.foldlM step s0 = .error q → D.ex v f r), rn := fun v r => ∃ q, step s a = .error q ∧ (xs.foldlM step s0 = .error q → D.rn v r) }
theorem deE_le {α S R : Type} {D : DE} {xs : List α} {s0 : S} {step : S → α → Except R S} {s : S} {a : α} {nxt nxt' : En → Prop} (he : ∀ q, step s a = .error q → xs.foldlM step s0 = .error q) (hn : ∀ r, nxt r → nxt' r) : (deE D xs s0 step s a nxt).Le { D with nx := nxt', ct := nxt', bk := D.nx } :=
  { nx := hn, ct := hn, bk := fun r ⟨q', h1, h2⟩ => h2 (he q' h1), rt := fun v r ⟨q', h1, h2⟩ => h2 (he q' h1), ex := fun v f r ⟨q', h1, h2⟩ => h2 (he q' h1), rn := fun v r ⟨q', h1, h2⟩ => h2 (he q' h1) }
/-- .. that may give back, or raise, or break ahead of its end -/
theorem sd_forE (xs : List α) (td : α → PyData) (sh : S → En) (step : S → α → Except R S) (s0 : S) (Pv : Nat → S → Prop) {ok : En → Prop} (hp : PassesOwn (model X.prog X.w) X.A X.env X.xe) (hc : X.calm = true) (hi : ID X tg iter ρ (xs.map td) ok none ρ1) (h0 : Le (sh s0) ρ1) (p0 : Pv 0 s0) (hok : ∀ s, ok (sh s))
    (hb : ∀ i s a, xs[i]? = some a → (xs.take i).foldlM step s0 = .ok s → Pv i s → ∃ ρ2, GD X tg (td a) (sh s) ρ2 ∧ BD X W body ρ2 (deE D xs s0 step s a fun r => ∃ s', step s a = .ok s' ∧ Le (sh s') r ∧ Pv (i + 1) s'))
    (hd : ∀ s, xs.foldlM step s0 = .ok s → Pv xs.length s → D.nx (sh s)) (hf : ∀ x, foldedSetIterable iter X.env x = pure x := by intro _; rfl) : SD X W (.For tg iter body [] pos) ρ D := by
  have errs : ∀ (i : Nat) (s : S) (a : α) (q : R), xs[i]? = some a → (xs.take i).foldlM step s0 = .ok s → step s a = .error q → xs.foldlM step s0 = .error q := fun i s a q h1 h2 h3 => by
    have e : xs = xs.take i ++ a :: xs.drop (i + 1) := by
      have hlt : i < xs.length := by
        by_cases z : i < xs.length
        · exact z
        · rw [List.getElem?_eq_none (by omega)] at h1; cases h1
      rw [List.getElem?_eq_getElem hlt] at h1
      cases h1
      rw [← List.drop_eq_getElem_cons hlt, List.take_append_drop]
    rw [e, List.foldlM_append, h2]
    show (step s a >>= fun s' => (xs.drop (i + 1)).foldlM step s') = _
    rw [h3]; rfl
  refine sd_for (fun i r => ∃ s, (xs.take i).foldlM step s0 = .ok s ∧ r = sh s ∧ Pv i s) hp hc hi ⟨_, h0, s0, by simp; rfl, rfl, p0⟩ (fun i r ⟨s, _, h, _⟩ => h ▸ hok s) ?_ ?_ hf
  · rintro i d r hd2 ⟨s, hs, rfl, pv⟩
    rw [List.getElem?_map] at hd2
    cases q : xs[i]? with
    | none => rw [q] at hd2; cases hd2
    | some a =>
      rw [q] at hd2; cases hd2
      obtain ⟨ρ2, g, bb⟩ := hb i s a q hs pv
      have nxt : ∀ r, (∃ s', step s a = .ok s' ∧ Le (sh s') r ∧ Pv (i + 1) s') → Lee (fun r => ∃ s, (xs.take (i + 1)).foldlM step s0 = .ok s ∧ r = sh s ∧ Pv (i + 1) s) r := fun r ⟨s', h, l, p⟩ => ⟨_, l, s', by
        rw [take_succ_of q, List.foldlM_append, hs]
        show (step s a >>= fun s' => pure s') = _
        rw [h]; rfl, rfl, p⟩
      exact ⟨ρ2, g, bd_post (deE_le (fun q' h1 => errs i s a q' q hs h1) nxt) bb⟩
  · rintro r ⟨s, hs, rfl, pv⟩
    rw [List.length_map] at hs pv
    rw [List.take_length] at hs
    exact hd s hs pv

theorem tsd_nil_of {Y : Cx} {scope : Scope} (h : IsBlk X scope Y) : PTs Y [] (tT X.K ρ true ρ) := by
  obtain ⟨s, H, C, cl, fp, rfl⟩ := h
  exact tsd_nil
/-! ### comprehensions -/
/-- X in the block: what is of use there -/
theorem lcM (xs : List α) (td : α → PyData) (fd : β → PyData) (keep : α → Bool) (val : α → β) {scope : Scope} {own : List (Str × Nat)} {ifs : List Expr} {src : Option Nat} {ok : En → Prop} (hb : BlkOk X.N X.env.scope scope own) (hi : ID X tg iter ρ (xs.map td) ok src ρ1) (hlen : xs.length < 100000) (hsrc : ∀ j, src = some j → j ∉ own.map (·.2)) (hok : ok (wipeE ρ1 (own.map (·.2))))
    (hT : ∀ a, a ∈ xs → ∃ ρt ρe, (∀ Y, IsBlk X scope Y → GV Y (own.map (·.2)) tg (td a) (wipeE ρ1 (own.map (·.2))) ρt) ∧ (∀ Y, IsBlk X scope Y → PTs Y ifs (tT X.K ρt (keep a) ρt)) ∧ (∀ Y, IsBlk X scope Y → keep a = true → PE Y elt (tP X.K ρt (fd (val a)) ρe)) ∧ Le (wipeE ρ1 (own.map (·.2))) ρt ∧ Le (wipeE ρ1 (own.map (·.2))) ρe): LcOk X elt tg iter ifs scope ρ (.l (((xs.filter keep).map val).map fd)) (restE ρ1 ρ1 (own.map (·.2))) := by
  have cho : ∀ p : { a // a ∈ xs }, ∃ q : En × En, (∀ Y, IsBlk X scope Y → GV Y (own.map (·.2)) tg (td p.1) (wipeE ρ1 (own.map (·.2))) q.1) ∧ (∀ Y, IsBlk X scope Y → PTs Y ifs (tT X.K q.1 (keep p.1) q.1)) ∧ (∀ Y, IsBlk X scope Y → keep p.1 = true → PE Y elt (tP X.K q.1 (fd (val p.1)) q.2)) ∧ Le (wipeE ρ1 (own.map (·.2))) q.1 ∧ Le (wipeE ρ1 (own.map (·.2))) q.2 := fun p => by
    obtain ⟨ρt, ρe, h⟩ := hT p.1 p.2
    exact ⟨(ρt, ρe), h⟩
  let T : Nat → Turn := fun i => if h : i < xs.length then
      let q := Classical.choose (cho ⟨xs[i], List.getElem_mem h⟩)
      ⟨q.1, q.1, keep xs[i], fd (val xs[i]), q.2⟩ else ⟨[], [], false, .none, []⟩
  have hT' : ∀ i d, (xs.map td)[i]? = some d → TurnOk X scope (own.map (·.2)) tg elt ifs d ρ1 ρ1 (T i) := fun i d hd => by
    have hlt : i < xs.length := by
      by_cases z : i < xs.length
      · exact z
      · rw [List.getElem?_eq_none (by rw [List.length_map]; omega)] at hd; cases hd
    rw [List.getElem?_map, List.getElem?_eq_getElem hlt] at hd
    cases hd
    have sp := Classical.choose_spec (cho ⟨xs[i], List.getElem_mem hlt⟩)
    have eT : T i = ⟨(Classical.choose (cho ⟨xs[i], List.getElem_mem hlt⟩)).1, (Classical.choose (cho ⟨xs[i], List.getElem_mem hlt⟩)).1, keep xs[i], fd (val xs[i]), (Classical.choose (cho ⟨xs[i], List.getElem_mem hlt⟩)).2⟩ := dif_pos hlt
    rw [eT]
    obtain ⟨s1, s2, s3, s4, s5⟩ := sp
    refine ⟨s1, s2, s3, ?_⟩
    dsimp only
    split
    · exact s5
    · exact s4
  have h := lc_ok (its := xs.map td) (fun _ => ρ1) T hb hi (wipeE_le _ _) hsrc (fun _ _ => hok) (by rw [List.length_map]; exact hlen) hT'
  have eo : ∀ n, n ≤ xs.length → outs T n = (((xs.take n).filter keep).map val).map fd := by
    intro n
    induction n with
    | zero => intro _; simp [outs]
    | succ n ih =>
      intro hn
      have hlt : n < xs.length := by omega
      have eT : T n = ⟨(Classical.choose (cho ⟨xs[n], List.getElem_mem hlt⟩)).1, (Classical.choose (cho ⟨xs[n], List.getElem_mem hlt⟩)).1, keep xs[n], fd (val xs[n]), (Classical.choose (cho ⟨xs[n], List.getElem_mem hlt⟩)).2⟩ := dif_pos hlt
      unfold outs
      rw [eT, ih (by omega), take_succ_of (List.getElem?_eq_getElem hlt), List.filter_append]
      dsimp only
      by_cases q : keep xs[n] = true
      · rw [if_pos q, List.filter_cons_of_pos q, List.filter_nil, List.map_append, List.map_append]; rfl
      · rw [if_neg q, List.filter_cons_of_neg q, List.filter_nil, List.append_nil]
  rw [List.length_map, eo _ (Nat.le_refl _), List.take_length] at h
  exact h
/-! ### typed readings of the rest -/
theorem pd_lenM {src : Option Nat} (hm : X.mg ("len" : Str) = none) (h : PQ X a ρ src (ns.map f) ρ1) (ok : SrcOk ρ1 src (ns.map f)) (hg : Gl X "len" := by rfl) (he : starEach [a] X.env = (false, eval a X.env) :: starEach [] X.env := by rfl) : PD X (.Call (.Name "len" p) [a] [] pos) ρ (.int (ns.length : Int)) ρ1 := by
  have h' := pd_len (pos := pos) (p := p) hm h ok hg he
  rw [List.length_map] at h'
  exact h'
theorem td_truthM {src : Option Nat} (h : PQ X a ρ src (ns.map f) ρ1) (ok : SrcOk ρ1 src (ns.map f)) (he : ∀ whole, isTrue a X.env whole = (do let v ← whole; standAt a.pos; holding [v] (truthy v)) := by intro _; rfl) : TD X a ρ (!ns.isEmpty) ρ1 := by
  have h' := td_truthL h ok he
  rw [List.isEmpty_map] at h'
  exact h'
theorem id_range0 {n : Nat} (hm : X.mg "range" = none) (h : PD X a ρ (.int (n : Int)) ρ') (h2 : n < 2 ^ 62) (hg : Gl X "range" := by rfl) (hs : starEach [a] X.env = [(false, eval a X.env)] := by rfl) : ID X tg (.Call (.Name "range" p) [a] [] pos) ρ ((List.range n).map fun i : Nat => PyData.int (i : Int)) (fun _ => True) none ρ' := by
  have h' := id_range1 (tg := tg) (pos := pos) (p := p) hm h (by omega) (by omega) hg hs
  unfold rgD at h'
  simp only [Int.toNat_natCast, Int.zero_add] at h'
  exact h'
theorem id_rangeI {n : Int} (hm : X.mg "range" = none) (h : PD X a ρ (.int n) ρ') (h2 : n.toNat < 2 ^ 62) (h3 : -(2 ^ 62) ≤ n) (hg : Gl X "range" := by rfl) (hs : starEach [a] X.env = [(false, eval a X.env)] := by rfl) : ID X tg (.Call (.Name "range" p) [a] [] pos) ρ ((List.range n.toNat).map fun i : Nat => PyData.int (i : Int)) (fun _ => True) none ρ' := by
  have h' := id_range1 (tg := tg) (pos := pos) (p := p) hm h (by omega) (by omega) hg hs
  unfold rgD at h'
  simp only [Int.zero_add] at h'
  exact h'
/-- the turns of a comprehension that changes slots -/
def scanV (step : S → α → S) (keep : S → α → Bool) (val : S → α → β) : S → List α → List β
  | _, [] => []
  | s, a :: r => if keep s a = true then val s a :: scanV step keep val (step s a) r else scanV step keep val (step s a) r
theorem scanV_snoc (step : S → α → S) (keep : S → α → Bool) (val : S → α → β) : ∀ (r : List α) (s : S) (a : α), scanV step keep val s (r ++ [a]) = scanV step keep val s r ++ if keep (r.foldl step s) a = true then [val (r.foldl step s) a] else []
  | [], s, a => by
    show scanV step keep val s [a] = _
    unfold scanV
    show (if keep s a = true then val s a :: scanV step keep val (step s a) [] else scanV step keep val (step s a) []) = [] ++ _
    unfold scanV
    rfl
  | b :: r, s, a => by
    rw [List.cons_append]
    unfold scanV
    rw [scanV_snoc step keep val r (step s b) a, List.foldl_cons]
    split <;> rfl
theorem lcS (xs : List α) (td : α → PyData) (fd : β → PyData) (sh : S → En) (step : S → α → S) (keep : S → α → Bool) (val : S → α → β) (s0 : S) {scope : Scope} {own : List (Str × Nat)} {ifs : List Expr} {src : Option Nat} {ok : En → Prop} (hb : BlkOk X.N X.env.scope scope own) (hi : ID X tg iter ρ (xs.map td) ok src ρ1) (h0 : Le (wipeE (sh s0) (own.map (·.2))) ρ1) (hlen : xs.length < 100000) (hsrc : ∀ j, src = some j → j ∉ own.map (·.2)) (hok : ∀ s, ok (wipeE (sh s) (own.map (·.2))))
    (hT : ∀ i a s, xs[i]? = some a → s = (xs.take i).foldl step s0 → ∃ ρt ρm ρe, (∀ Y, IsBlk X scope Y → GV Y (own.map (·.2)) tg (td a) (wipeE (sh s) (own.map (·.2))) ρt) ∧ (∀ Y, IsBlk X scope Y → PTs Y ifs (tT X.K ρt (keep s a) ρm)) ∧ (∀ Y, IsBlk X scope Y → keep s a = true → PE Y elt (tP X.K ρm (fd (val s a)) ρe)) ∧ (keep s a = true → Le (wipeE (sh (step s a)) (own.map (·.2))) ρe) ∧ (keep s a = false → Le (wipeE (sh (step s a)) (own.map (·.2))) ρm)): LcOk X elt tg iter ifs scope ρ (.l ((scanV step keep val s0 xs).map fd)) (restE ρ1 (sh (xs.foldl step s0)) (own.map (·.2))) := by
  let st : Nat → S := fun i => (xs.take i).foldl step s0
  have cho : ∀ p : { p : Nat × α // xs[p.1]? = some p.2 }, ∃ q : En × En × En, (∀ Y, IsBlk X scope Y → GV Y (own.map (·.2)) tg (td p.1.2) (wipeE (sh (st p.1.1)) (own.map (·.2))) q.1) ∧ (∀ Y, IsBlk X scope Y → PTs Y ifs (tT X.K q.1 (keep (st p.1.1) p.1.2) q.2.1)) ∧ (∀ Y, IsBlk X scope Y → keep (st p.1.1) p.1.2 = true → PE Y elt (tP X.K q.2.1 (fd (val (st p.1.1) p.1.2)) q.2.2)) ∧ (keep (st p.1.1) p.1.2 = true → Le (wipeE (sh (step (st p.1.1) p.1.2)) (own.map (·.2))) q.2.2) ∧ (keep (st p.1.1) p.1.2 = false → Le (wipeE (sh (step (st p.1.1) p.1.2)) (own.map (·.2))) q.2.1) := fun p => by
    obtain ⟨ρt, ρm, ρe, h⟩ := hT p.1.1 p.1.2 _ p.2 rfl
    exact ⟨(ρt, ρm, ρe), h⟩
  let T : Nat → Turn := fun i => if h : i < xs.length then
      let q := Classical.choose (cho ⟨(i, xs[i]), List.getElem?_eq_getElem h⟩)
      ⟨q.1, q.2.1, keep (st i) xs[i], fd (val (st i) xs[i]), q.2.2⟩ else ⟨[], [], false, .none, []⟩
  have eT : ∀ i (h : i < xs.length), T i = ⟨(Classical.choose (cho ⟨(i, xs[i]), List.getElem?_eq_getElem h⟩)).1, (Classical.choose (cho ⟨(i, xs[i]), List.getElem?_eq_getElem h⟩)).2.1, keep (st i) xs[i], fd (val (st i) xs[i]), (Classical.choose (cho ⟨(i, xs[i]), List.getElem?_eq_getElem h⟩)).2.2⟩ := fun i h => dif_pos h
  have sN : ∀ i (h : i < xs.length), st (i + 1) = step (st i) xs[i] := fun i h => by
    show (xs.take (i + 1)).foldl step s0 = _
    rw [take_succ_of (List.getElem?_eq_getElem h), List.foldl_append]; rfl
  have hT' : ∀ i d, (xs.map td)[i]? = some d → TurnOk X scope (own.map (·.2)) tg elt ifs d (sh (st i)) (sh (st (i + 1))) (T i) := fun i d hd => by
    have hlt : i < xs.length := by
      by_cases z : i < xs.length
      · exact z
      · rw [List.getElem?_eq_none (by rw [List.length_map]; omega)] at hd; cases hd
    rw [List.getElem?_map, List.getElem?_eq_getElem hlt] at hd
    cases hd
    have sp := Classical.choose_spec (cho ⟨(i, xs[i]), List.getElem?_eq_getElem hlt⟩)
    rw [eT i hlt]
    obtain ⟨s1, s2, s3, s4, s5⟩ := sp
    refine ⟨s1, s2, s3, ?_⟩
    dsimp only
    rw [sN i hlt]
    split
    · rename_i q; exact s4 q
    · rename_i q; exact s5 (by simpa using q)
  have h := lc_ok (its := xs.map td) (fun i => sh (st i)) T hb hi h0 hsrc (fun _ _ => hok _) (by rw [List.length_map]; exact hlen) hT'
  have eo : ∀ n, n ≤ xs.length → outs T n = (scanV step keep val s0 (xs.take n)).map fd := by
    intro n
    induction n with
    | zero => intro _; rfl
    | succ n ih =>
      intro hn
      have hlt : n < xs.length := by omega
      unfold outs
      rw [eT n hlt, ih (by omega), take_succ_of (List.getElem?_eq_getElem hlt), scanV_snoc, List.map_append]
      dsimp only
      by_cases q : keep (st n) xs[n] = true
      · rw [if_pos q, if_pos q]; rfl
      · rw [if_neg q, if_neg q]; simp
  rw [List.length_map, eo _ (Nat.le_refl _), List.take_length] at h
  have e2 : st xs.length = xs.foldl step s0 := by
    show (xs.take xs.length).foldl step s0 = _
    rw [List.take_length]
  rw [e2] at h
  exact h
theorem bd_env (h : ρ = ρ') (hb : BD X W body ρ' D) : BD X W body ρ D := h ▸ hb
/-! ### a name that owns its list: read -/
theorem srcO {j : Nat} {q : Option Addr} {xs : List PyData} (h : ρ[j]? = some (.o q (.l xs))) : SrcOk ρ (some j) xs := ⟨q, h⟩
theorem pd_ixO {o : Str} {p1 : Pos} {pa pb : Option Addr} {xs : List PyData} (j : Nat) (h0 : ρ[j]? = some (.o pa (.l xs))) (hb : PD X b ρ (.int i) ρ2) (h1 : ρ2[j]? = some (.o pb (.l xs))) (h : atI xs i = some x) (hs : PlainIx b := by intro _ _; rfl)
    (hN : X.N[j]? = some o := by rfl) (hv : Vis X.env.scope o := by first | exact Or.inl rfl | exact Or.inr (Or.inl rfl) | exact Or.inr (Or.inr rfl)) (hd : (o == ("__debug__" : Str)) = false := by decide) (hcd : (o == ("__classdict__" : Str)) = false := by decide) :
    PD X (.Subscript (.Name o p1) b pos) ρ x ρ2 := pd_ixL h (srcO h1) (pq_o j h0 hN hv hd hcd) hb hs
theorem pd_gixO [Inhabited α] {o : Str} {p1 : Pos} {pa pb : Option Addr} (j : Nat) (h0 : ρ[j]? = some (.o pa (.l (ns.map f)))) (hb : PD X b ρ (.int i) ρ2) (h1 : ρ2[j]? = some (.o pb (.l (ns.map f)))) (h : -(ns.length : Int) ≤ i ∧ i < ns.length) (hs : PlainIx b := by intro _ _; rfl)
    (hN : X.N[j]? = some o := by rfl) (hv : Vis X.env.scope o := by first | exact Or.inl rfl | exact Or.inr (Or.inl rfl) | exact Or.inr (Or.inr rfl)) (hd : (o == ("__debug__" : Str)) = false := by decide) (hcd : (o == ("__classdict__" : Str)) = false := by decide) :
    PD X (.Subscript (.Name o p1) b pos) ρ (f (gI ns i)) ρ2 := pd_ixL (gI_at h) (srcO h1) (pq_o j h0 hN hv hd hcd) hb hs
theorem pd_lenO {o : Str} {p1 : Pos} {pa : Option Addr} (j : Nat) (hm : X.mg ("len" : Str) = none) (h0 : ρ[j]? = some (.o pa (.l (ns.map f)))) (hg : Gl X "len" := by rfl) (he : starEach [.Name o p1] X.env = (false, eval (.Name o p1) X.env) :: starEach [] X.env := by rfl)
    (hN : X.N[j]? = some o := by rfl) (hv : Vis X.env.scope o := by first | exact Or.inl rfl | exact Or.inr (Or.inl rfl) | exact Or.inr (Or.inr rfl)) (hd : (o == ("__debug__" : Str)) = false := by decide) (hcd : (o == ("__classdict__" : Str)) = false := by decide) :
    PD X (.Call (.Name "len" p) [.Name o p1] [] pos) ρ (.int (ns.length : Int)) ρ := pd_lenM hm (pq_o j h0 hN hv hd hcd) (srcO h0) hg he
theorem td_truthO {o : Str} {p1 : Pos} {pa : Option Addr} (j : Nat) (h0 : ρ[j]? = some (.o pa (.l (ns.map f)))) (he : ∀ whole, isTrue (.Name o p1) X.env whole = (do let v ← whole; standAt (Expr.Name o p1).pos; holding [v] (truthy v)) := by intro _; rfl)
    (hN : X.N[j]? = some o := by rfl) (hv : Vis X.env.scope o := by first | exact Or.inl rfl | exact Or.inr (Or.inl rfl) | exact Or.inr (Or.inr rfl)) (hd : (o == ("__debug__" : Str)) = false := by decide) (hcd : (o == ("__classdict__" : Str)) = false := by decide) :
    TD X (.Name o p1) ρ (!ns.isEmpty) ρ := td_truthM (pq_o j h0 hN hv hd hcd) (srcO h0) he
/-! ### of lists that are data -/
theorem srcN {xs : List PyData} : SrcOk ρ none xs := trivial
theorem pd_gixD [Inhabited α] (h : -(ns.length : Int) ≤ i ∧ i < ns.length) (ha : PD X a ρ (.list (ns.map f)) ρ1) (hb : PD X b ρ1 (.int i) ρ2) (hs : PlainIx b := by intro _ _; rfl) : PD X (.Subscript a b pos) ρ (f (gI ns i)) ρ2 := pd_ixL (gI_at h) (srcN) (pq_d ha) hb hs
theorem pd_lenD (hm : X.mg ("len" : Str) = none) (h : PD X a ρ (.list (ns.map f)) ρ1) (hg : Gl X "len" := by rfl) (he : starEach [a] X.env = (false, eval a X.env) :: starEach [] X.env := by rfl) : PD X (.Call (.Name "len" p) [a] [] pos) ρ (.int (ns.length : Int)) ρ1 := pd_lenM hm (pq_d h) (srcN) hg he
theorem td_truthD (h : PD X a ρ (.list (ns.map f)) ρ1) (he : ∀ whole, isTrue a X.env whole = (do let v ← whole; standAt a.pos; holding [v] (truthy v)) := by intro _; rfl) : TD X a ρ (!ns.isEmpty) ρ1 := td_truthM (pq_d h) (srcN) he
theorem pd_sumD {ns : List Int} (hc : X.calm = true) (hm : X.mg ("sum" : Str) = none) (h : PD X a ρ (.list (ns.map .int)) ρ1) (hg : Gl X "sum" := by rfl) (he : starEach [a] X.env = (false, eval a X.env) :: starEach [] X.env := by rfl) : PD X (.Call (.Name "sum" p) [a] [] pos) ρ (.int ns.sum) ρ1 := pd_sum hc hm (pq_d h) (srcN) hg he
theorem pd_maxD {ns : List Int} (hc : X.calm = true) (hm : X.mg ("max" : Str) = none) (hn : 0 < ns.length) (h : PD X a ρ (.list (ns.map .int)) ρ1) (hg : Gl X "max" := by rfl) (he : starEach [a] X.env = (false, eval a X.env) :: starEach [] X.env := by rfl) : PD X (.Call (.Name "max" p) [a] [] pos) ρ (.int (lmax ns)) ρ1 := pd_maxL hc hm hn (pq_d h) (srcN) hg he
theorem pd_minD {ns : List Int} (hc : X.calm = true) (hm : X.mg ("min" : Str) = none) (hn : 0 < ns.length) (h : PD X a ρ (.list (ns.map .int)) ρ1) (hg : Gl X "min" := by rfl) (he : starEach [a] X.env = (false, eval a X.env) :: starEach [] X.env := by rfl) : PD X (.Call (.Name "min" p) [a] [] pos) ρ (.int (lmin ns)) ρ1 := pd_minL hc hm hn (pq_d h) (srcN) hg he
theorem pd_listD (hm : X.mg ("list" : Str) = none) (h : PD X a ρ (.list (ns.map f)) ρ1) (hg : Gl X "list" := by rfl) (he : starEach [a] X.env = (false, eval a X.env) :: starEach [] X.env := by rfl) : PN X (.Call (.Name "list" p) [a] [] pos) ρ (.l (ns.map f)) ρ1 := pn_list hm (pq_d h) (srcN) hg he
theorem pn_catD (ha : PD X a ρ (.list (ns.map f)) ρ1) (hb : PD X b ρ1 (.list (ms.map f)) ρ2) (hl : ns.length + ms.length ≤ 100000) : PN X (.BinOp a .Add b pos) ρ (.l ((ns ++ ms).map f)) ρ2 := pn_catM (pq_d ha) (srcN) (pq_d hb) (srcN) hl
theorem pn_sliceD {lo hi : Option Expr} {ol oh : Option Int} {p2 : Pos} (h : PD X e ρ (.list (ns.map f)) ρ1) (hl : OD X lo ρ1 ol ρ2) (hh : OD X hi ρ2 oh ρ3) : PN X (.Subscript e (.Slice lo hi none p2) pos) ρ (.l ((cutG ns ol oh).map f)) ρ3 := pn_sliceM (pq_d h) hl hh (srcN)
theorem id_listD (h : PD X e ρ (.list (ns.map f)) ρ') : ID X tg e ρ (ns.map f) (fun r => SrcOk r none (ns.map f)) none ρ' := id_list (pq_d h) (srcN)
/-- without an if -/
theorem lcN (xs : List α) (td : α → PyData) (fd : β → PyData) (val : α → β) {scope : Scope} {own : List (Str × Nat)} {src : Option Nat} {ok : En → Prop} (hb : BlkOk X.N X.env.scope scope own) (hi : ID X tg iter ρ (xs.map td) ok src ρ1) (hlen : xs.length < 100000) (hsrc : ∀ j, src = some j → j ∉ own.map (·.2)) (hok : ok (wipeE ρ1 (own.map (·.2))))
    (hT : ∀ a, a ∈ xs → ∃ ρt ρe, (∀ Y, IsBlk X scope Y → GV Y (own.map (·.2)) tg (td a) (wipeE ρ1 (own.map (·.2))) ρt) ∧ (∀ Y, IsBlk X scope Y → PE Y elt (tP X.K ρt (fd (val a)) ρe)) ∧ Le (wipeE ρ1 (own.map (·.2))) ρt ∧ Le (wipeE ρ1 (own.map (·.2))) ρe): LcOk X elt tg iter [] scope ρ (.l ((xs.map val).map fd)) (restE ρ1 ρ1 (own.map (·.2))) := by
  have h := lcM (ifs := []) xs td fd (fun _ => true) val hb hi hlen hsrc hok (fun a ha => by
    obtain ⟨ρt, ρe, h1, h2, h3, h4⟩ := hT a ha
    exact ⟨ρt, ρe, h1, fun Y hY => tsd_nil_of hY, fun Y hY _ => h2 Y hY, h3, h4⟩)
  rw [List.filter_eq_self.mpr (fun _ _ => rfl)] at h
  exact h
/-- xs[i] = v -/
def setI (xs : List α) (i : Int) (v : α) : List α := if i < 0 then xs.set (i + xs.length).toNat v else xs.set i.toNat v
theorem setI_len (xs : List α) (i : Int) (v : α) : (setI xs i v).length = xs.length := by
  unfold setI
  split <;> rw [List.length_set]
theorem ne_len {xs : List α} (h : (!xs.isEmpty) = true) : 0 < xs.length := by
  cases xs with
  | nil => cases h
  | cons x r => exact Nat.succ_pos _
theorem sd_setixM {o : Str} {p1 p2 : Pos} {pa pb : Option Addr} {ys : List PyData} {ix : Int} {v : α} (j : Nat) (he : PD X e ρ (f v) ρ1) (h0 : ρ1[j]? = some (.o pa (.l ys))) (hix : PD X a ρ1 (.int ix) ρ2) (h1 : ρ2[j]? = some (.o pb (.l (ns.map f)))) (hn : -(ns.length : Int) ≤ ix ∧ ix < ns.length) (h : D.nx (ρ2.set j (.o pb (.l ((setI ns ix v).map f)))))
    (hN : X.N[j]? = some o := by rfl) (hv : Vis X.env.scope o := by first | exact Or.inl rfl | exact Or.inr (Or.inl rfl) | exact Or.inr (Or.inr rfl)) (hd : (o == ("__debug__" : Str)) = false := by decide) (hcd : (o == ("__classdict__" : Str)) = false := by decide)
    (hg : ∀ v, assign (.Subscript (.Name o p1) a p2) X.env v = (do
      let ov ← holding [v] (eval (.Name o p1) X.env)
      let iv ← holding [v, ov] (eval a X.env)
      standAt p2
      holding [v, ov, iv] (setItem ov iv v)
      release [v, ov, iv] []) := by intro _; rfl)
    (hs : swapsWithSole [.Subscript (.Name o p1) a p2] e pos.line X.env = pure false := by rfl) (hw : swappedStores [.Subscript (.Name o p1) a p2] e X.env = pure none := by rfl)
    (hm : (assignEach [.Subscript (.Name o p1) a p2] X.env).map (·.2) = [assign (.Subscript (.Name o p1) a p2) X.env] := by rfl) :
    SD X W (.Assign [.Subscript (.Name o p1) a p2] e pos) ρ D := by
  unfold setI at h
  by_cases q : ix < 0
  · rw [if_pos q, List.map_set] at h
    refine sd_setix (n := (ix + ns.length).toNat) j he h0 hix h1 ?_ h hN hv hd hcd hg hs hw hm
    unfold ixN
    rw [List.length_map, if_neg (by omega), if_pos (by omega)]
  · rw [if_neg q, List.map_set] at h
    refine sd_setix (n := ix.toNat) j he h0 hix h1 ?_ h hN hv hd hcd hg hs hw hm
    unfold ixN
    rw [List.length_map, if_pos (by omega), if_pos (by omega)]
/-- a, b, .. = a list -/
theorem gd_lst {kk : Nat} {xs : List PyData} (hc : X.calm = true) (h : GsD X es xs ρ ρ') (hn : (assignEach es X.env).length = xs.length := by rfl) (hst : (assignEach es X.env).findIdx? (·.1) = none := by rfl) : GD X (.Tuple es kk pos) (.list xs) ρ ρ' := PG_imp (pg_lst hc h hn hst) fun v σ H Q ⟨C, F, se, r, q⟩ => by
  cases r with
  | lst h1 h2 => exact ⟨_, _, rfl, se.fr.ext.l h1, h2.length, C, F, se, h2, q⟩
theorem isN_dO (o : Option α) (h : ∀ a, isNone (f a) = false) : isNone (dO f o) = o.isNone := by
  cases o with
  | none => rfl
  | some a => exact h a
theorem notN_dO (o : Option α) (h : ∀ a, isNone (f a) = false) : (!isNone (dO f o)) = !o.isNone := by rw [isN_dO o h]
end
end G

/-! GPool: what the laws drawP from. -/
namespace G
open PySem PySem.Spec PyProof.Rows L2
structure Pool where
  l : List Int
  a : Int
  b : Int
  c : Int
  d : Int
def pl (p : Pool) : List PyData := [.list (p.l.map .int), .int p.a, .int p.b, .int p.c, .int p.d]
def drawEnd (p : Pool) (n : Int) : Int × Pool :=
  let m := (p.c * 48271 + (p.d + 1) * 69621 + 7919) % 2147483647
  (((m * m + (p.d + 1) * 40692) % 2147483399) % n, { p with d := p.d + 1 })
def drawP (p : Pool) (n : Int) : Int × Pool :=
  if p.b > 0 then (p.b % n, { p with b := p.b / n })
  else if decide (p.d % 8 = 0) && decide (p.a < p.l.length) then
    let cell : Int := (gI p.l p.a).natAbs
    if cell ≥ 10 ^ 18 then (cell % n, { p with a := p.a + 1, b := cell / n })
    else drawEnd { p with a := p.a + 1, c := cell } n
  else drawEnd p n
theorem drawEnd_bd (p : Pool) {n : Int} (h : 0 < n) : 0 ≤ (drawEnd p n).1 ∧ (drawEnd p n).1 < n := ⟨Int.emod_nonneg _ (by omega), Int.emod_lt_of_pos _ h⟩
theorem draw_bd (p : Pool) {n : Int} (h : 0 < n) : 0 ≤ (drawP p n).1 ∧ (drawP p n).1 < n := by
  unfold drawP
  split
  · exact ⟨Int.emod_nonneg _ (by omega), Int.emod_lt_of_pos _ h⟩
  · split
    · dsimp only
      split
      · exact ⟨Int.emod_nonneg _ (by omega), Int.emod_lt_of_pos _ h⟩
      · exact drawEnd_bd _ h
    · exact drawEnd_bd _ h
theorem draw_a (p : Pool) (n : Int) (h : 0 ≤ p.a) : 0 ≤ (drawP p n).2.a := by
  unfold drawP
  split
  · exact h
  · split
    · dsimp only
      split
      · show 0 ≤ p.a + 1; omega
      · show 0 ≤ p.a + 1; omega
    · exact h
/-- an int drawn -/
def SDraw (xs ds : List PyData) (y : PyData) (xs' : List PyData) : Prop := ∃ (p : Pool) (n : Int) (r : Int × Pool), xs = pl p ∧ ds = [.int n] ∧ (0 < n ∧ n < 1073741824 ∧ 0 ≤ p.a) ∧ r = drawP p n ∧ y = .int r.1 ∧ xs' = pl r.2
end G
namespace G
open PySem PySem.Spec PyProof.Rows L2
/-- data without dicts, no deeper than that -/
inductive Nice : Nat → PyData → Prop
  | non {d : Nat} : Nice d .none
  | bl {d : Nat} (b : Bool) : Nice d (.bool b)
  | int {d : Nat} (i : Int) : Nice d (.int i)
  | str {d : Nat} (t : Str) : Nice d (.str t)
  | lst {d : Nat} {xs : List PyData} : xs.length < 100000 → (∀ x ∈ xs, Nice d x) → Nice (d + 1) (.list xs)
  | tup {d : Nat} {xs : List PyData} : xs.length < 100000 → (∀ x ∈ xs, Nice d x) → Nice (d + 1) (.tuple xs)
/-- _law_same of two alike -/
def SSame (d : Nat) (ds : List PyData) (r : Res) : Prop := ∃ x, ds = [x, x] ∧ Nice d x ∧ r = .ret (.bool true)
section
variable {X : Cx} {W : WX} {ρ : En} {st : Stmt} {rest : List Stmt} {D : DE}
/-- a statement that never falls through -/
theorem bd_guard_end (h : SD X W st ρ { D with nx := fun _ => False }) : BD X W (st :: rest) ρ D := bd_cut (fun _ => False) h fun _ z => z.elim
end
end G

namespace GP
open PySem PySem.Spec PyProof.Rows L2 G
/-! ### the text -/
def topS (i : Nat) : Stmt := PySem.Challenge.pw_grainhaul_k70_slack_resets_and_runs.main.body.getD i (.Pass ⟨0, 0, 0, 0⟩)
abbrev s__law_sums : Stmt := topS 26
abbrev n__law_sums : List Str := [("readings" : Str), ("middle" : Str), ("slack" : Str), ("sign" : Str), ("found" : Str), ("total" : Str), ("reading" : Str)]
theorem sc__law_sums : FnScope n__law_sums [("readings" : Str), ("middle" : Str), ("slack" : Str), ("sign" : Str)] (defScope s__law_sums) := ⟨rfl, rfl, rfl, by decide +kernel, rfl, by decide +kernel, by decide +kernel⟩
def d__law_sums : He.DefD := ⟨("_law_sums", none), "_law_sums", "_law_sums", defArgs s__law_sums, defBody s__law_sums, defScope s__law_sums, [], []⟩
abbrev s__law_alarm : Stmt := topS 28
abbrev n__law_alarm : List Str := [("readings" : Str), ("middle" : Str), ("slack" : Str), ("limit" : Str), ("high" : Str), ("low" : Str), ("found" : Str), ("k" : Str)]
theorem sc__law_alarm : FnScope n__law_alarm [("readings" : Str), ("middle" : Str), ("slack" : Str), ("limit" : Str)] (defScope s__law_alarm) := ⟨rfl, rfl, rfl, by decide +kernel, rfl, by decide +kernel, by decide +kernel⟩
def d__law_alarm : He.DefD := ⟨("_law_alarm", none), "_law_alarm", "_law_alarm", defArgs s__law_alarm, defBody s__law_alarm, defScope s__law_alarm, [], []⟩
abbrev s__law_draw : Stmt := topS 23
abbrev n__law_draw : List Str := [("pool" : Str), ("many" : Str), ("found" : Str), ("cell" : Str), ("mixed" : Str)]
theorem sc__law_draw : FnScope n__law_draw [("pool" : Str), ("many" : Str)] (defScope s__law_draw) := ⟨rfl, rfl, rfl, by decide +kernel, rfl, by decide +kernel, by decide +kernel⟩
def d__law_draw : He.DefD := ⟨("_law_draw", none), "_law_draw", "_law_draw", defArgs s__law_draw, defBody s__law_draw, defScope s__law_draw, [], []⟩
abbrev s__law_pick : Stmt := topS 24
abbrev n__law_pick : List Str := [("pool" : Str), ("rows" : Str)]
theorem sc__law_pick : FnScope n__law_pick [("pool" : Str), ("rows" : Str)] (defScope s__law_pick) := ⟨rfl, rfl, rfl, by decide +kernel, rfl, by decide +kernel, by decide +kernel⟩
def d__law_pick : He.DefD := ⟨("_law_pick", none), "_law_pick", "_law_pick", defArgs s__law_pick, defBody s__law_pick, defScope s__law_pick, [], []⟩
abbrev s__law_pool : Stmt := topS 22
abbrev n__law_pool : List Str := [("script" : Str)]
theorem sc__law_pool : FnScope n__law_pool [("script" : Str)] (defScope s__law_pool) := ⟨rfl, rfl, rfl, by decide +kernel, rfl, by decide +kernel, by decide +kernel⟩
def d__law_pool : He.DefD := ⟨("_law_pool", none), "_law_pool", "_law_pool", defArgs s__law_pool, defBody s__law_pool, defScope s__law_pool, [], []⟩
abbrev s__law_readings : Stmt := topS 25
abbrev n__law_readings : List Str := [("pool" : Str), ("middle" : Str), ("wide" : Str), ("k" : Str)]
theorem sc__law_readings : FnScope n__law_readings [("pool" : Str)] (defScope s__law_readings) := ⟨rfl, rfl, rfl, by decide +kernel, rfl, by decide +kernel, by decide +kernel⟩
def d__law_readings : He.DefD := ⟨("_law_readings", none), "_law_readings", "_law_readings", defArgs s__law_readings, defBody s__law_readings, defScope s__law_readings, [], []⟩
abbrev s__law_same : Stmt := topS 21
abbrev n__law_same : List Str := [("actual" : Str), ("due" : Str), ("k" : Str)]
theorem sc__law_same : FnScope n__law_same [("actual" : Str), ("due" : Str)] (defScope s__law_same) := ⟨rfl, rfl, rfl, by decide +kernel, rfl, by decide +kernel, by decide +kernel⟩
def d__law_same : He.DefD := ⟨("_law_same", none), "_law_same", "_law_same", defArgs s__law_same, defBody s__law_same, defScope s__law_same, [], []⟩
abbrev s_is_number : Stmt := topS 6
abbrev n_is_number : List Str := [("value" : Str), ("least" : Str), ("most" : Str)]
theorem sc_is_number : FnScope n_is_number [("value" : Str), ("least" : Str), ("most" : Str)] (defScope s_is_number) := ⟨rfl, rfl, rfl, by decide +kernel, rfl, by decide +kernel, by decide +kernel⟩
def d_is_number : He.DefD := ⟨("is_number", none), "is_number", "is_number", defArgs s_is_number, defBody s_is_number, defScope s_is_number, [.int 0, .int 1000000], []⟩
abbrev s_checked_number : Stmt := topS 7
abbrev n_checked_number : List Str := [("value" : Str), ("least" : Str), ("most" : Str)]
theorem sc_checked_number : FnScope n_checked_number [("value" : Str), ("least" : Str), ("most" : Str)] (defScope s_checked_number) := ⟨rfl, rfl, rfl, by decide +kernel, rfl, by decide +kernel, by decide +kernel⟩
def d_checked_number : He.DefD := ⟨("checked_number", none), "checked_number", "checked_number", defArgs s_checked_number, defBody s_checked_number, defScope s_checked_number, [.int 0, .int 1000000], []⟩
abbrev s_checked_readings : Stmt := topS 11
abbrev n_checked_readings : List Str := [("readings" : Str), ("reading" : Str)]
theorem sc_checked_readings : FnScope n_checked_readings [("readings" : Str)] (defScope s_checked_readings) := ⟨rfl, rfl, rfl, by decide +kernel, rfl, by decide +kernel, by decide +kernel⟩
def d_checked_readings : He.DefD := ⟨("checked_readings", none), "checked_readings", "checked_readings", defArgs s_checked_readings, defBody s_checked_readings, defScope s_checked_readings, [], []⟩
abbrev s_sums : Stmt := topS 12
abbrev n_sums : List Str := [("readings" : Str), ("middle" : Str), ("slack" : Str), ("found" : Str), ("total" : Str), ("reading" : Str)]
theorem sc_sums : FnScope n_sums [("readings" : Str), ("middle" : Str), ("slack" : Str)] (defScope s_sums) := ⟨rfl, rfl, rfl, by decide +kernel, rfl, by decide +kernel, by decide +kernel⟩
def d_sums : He.DefD := ⟨("sums", none), "sums", "sums", defArgs s_sums, defBody s_sums, defScope s_sums, [], []⟩
abbrev s_low_sums : Stmt := topS 13
abbrev n_low_sums : List Str := [("readings" : Str), ("middle" : Str), ("slack" : Str), ("reading" : Str)]
theorem sc_low_sums : FnScope n_low_sums [("readings" : Str), ("middle" : Str), ("slack" : Str)] (defScope s_low_sums) := ⟨rfl, rfl, rfl, by decide +kernel, rfl, by decide +kernel, by decide +kernel⟩
def d_low_sums : He.DefD := ⟨("low_sums", none), "low_sums", "low_sums", defArgs s_low_sums, defBody s_low_sums, defScope s_low_sums, [], []⟩
abbrev s_least_limit : Stmt := topS 15
abbrev n_least_limit : List Str := [("readings" : Str), ("middle" : Str), ("slack" : Str)]
theorem sc_least_limit : FnScope n_least_limit [("readings" : Str), ("middle" : Str), ("slack" : Str)] (defScope s_least_limit) := ⟨rfl, rfl, rfl, by decide +kernel, rfl, by decide +kernel, by decide +kernel⟩
def d_least_limit : He.DefD := ⟨("least_limit", none), "least_limit", "least_limit", defArgs s_least_limit, defBody s_least_limit, defScope s_least_limit, [], []⟩
abbrev s_least_slack : Stmt := topS 16
abbrev n_least_slack : List Str := [("readings" : Str), ("middle" : Str), ("limit" : Str), ("low" : Str), ("high" : Str), ("half" : Str)]
theorem sc_least_slack : FnScope n_least_slack [("readings" : Str), ("middle" : Str), ("limit" : Str)] (defScope s_least_slack) := ⟨rfl, rfl, rfl, by decide +kernel, rfl, by decide +kernel, by decide +kernel⟩
def d_least_slack : He.DefD := ⟨("least_slack", none), "least_slack", "least_slack", defArgs s_least_slack, defBody s_least_slack, defScope s_least_slack, [], []⟩
abbrev s_runs : Stmt := topS 18
abbrev n_runs : List Str := [("readings" : Str), ("middle" : Str), ("found" : Str), ("rows" : Str), ("index" : Str), ("side" : Str)]
theorem sc_runs : FnScope n_runs [("readings" : Str), ("middle" : Str)] (defScope s_runs) := ⟨rfl, rfl, rfl, by decide +kernel, rfl, by decide +kernel, by decide +kernel⟩
def d_runs : He.DefD := ⟨("runs", none), "runs", "runs", defArgs s_runs, defBody s_runs, defScope s_runs, [], []⟩
abbrev s_longest_run : Stmt := topS 19
abbrev n_longest_run : List Str := [("readings" : Str), ("middle" : Str), ("begin" : Str), ("end" : Str), ("side" : Str)]
theorem sc_longest_run : FnScope n_longest_run [("readings" : Str), ("middle" : Str)] (defScope s_longest_run) := ⟨rfl, rfl, rfl, by decide +kernel, rfl, by decide +kernel, by decide +kernel⟩
def d_longest_run : He.DefD := ⟨("longest_run", none), "longest_run", "longest_run", defArgs s_longest_run, defBody s_longest_run, defScope s_longest_run, [], []⟩
abbrev s_first_alarm : Stmt := topS 14
abbrev n_first_alarm : List Str := [("readings" : Str), ("middle" : Str), ("slack" : Str), ("limit" : Str), ("high" : Str), ("low" : Str), ("index" : Str)]
theorem sc_first_alarm : FnScope n_first_alarm [("readings" : Str), ("middle" : Str), ("slack" : Str), ("limit" : Str)] (defScope s_first_alarm) := ⟨rfl, rfl, rfl, by decide +kernel, rfl, by decide +kernel, by decide +kernel⟩
def d_first_alarm : He.DefD := ⟨("first_alarm", none), "first_alarm", "first_alarm", defArgs s_first_alarm, defBody s_first_alarm, defScope s_first_alarm, [], []⟩
abbrev s_resets : Stmt := topS 17
abbrev n_resets : List Str := [("readings" : Str), ("middle" : Str), ("slack" : Str), ("limit" : Str), ("rows" : Str), ("found" : Str), ("begin" : Str), ("place" : Str)]
theorem sc_resets : FnScope n_resets [("readings" : Str), ("middle" : Str), ("slack" : Str), ("limit" : Str)] (defScope s_resets) := ⟨rfl, rfl, rfl, by decide +kernel, rfl, by decide +kernel, by decide +kernel⟩
def d_resets : He.DefD := ⟨("resets", none), "resets", "resets", defArgs s_resets, defBody s_resets, defScope s_resets, [], []⟩
abbrev s_law : Stmt := topS 29
abbrev n_law : List Str := [("script" : Str), ("pool" : Str), ("readings" : Str), ("middle" : Str), ("wide" : Str), ("slack" : Str), ("top" : Str), ("k" : Str), ("limit" : Str), ("least" : Str), ("due" : Str), ("begin" : Str), ("place" : Str), ("rows" : Str), ("side" : Str), ("far" : Str), ("row" : Str)]
theorem sc_law : FnScope n_law [("script" : Str)] (defScope s_law) := ⟨rfl, rfl, rfl, by decide +kernel, rfl, by decide +kernel, by decide +kernel⟩
def d_law : He.DefD := ⟨("law", none), "law", "law", defArgs s_law, defBody s_law, defScope s_law, [], []⟩
def fn : List He.DefD := [d__law_sums, d__law_alarm, d__law_draw, d__law_pick, d__law_pool, d__law_readings, d__law_same, d_is_number, d_checked_number, d_checked_readings, d_sums, d_low_sums, d_least_limit, d_least_slack, d_runs, d_longest_run, d_first_alarm, d_resets, d_law]
def fA : List He.Fa := [.glo "_law_sums", .glo "_law_alarm", .glo "_law_draw", .glo "_law_pick", .glo "_law_pool", .glo "_law_readings", .glo "_law_same", .glo "is_number", .glo "checked_number", .glo "checked_readings", .glo "sums", .glo "low_sums", .glo "least_limit", .glo "least_slack", .glo "runs", .glo "longest_run", .glo "first_alarm", .glo "resets", .glo "law", .free "abs", .free "bool", .free "int", .free "isinstance", .free "len", .free "list", .free "max", .free "range", .free "str", .free "tuple", .int "FAR" (1000000000), .int "GREATEST" (1000000), .int "MOST" (400), .exc "InvalidNumber", .exc "TooMany"]
/-- what the top has written -/
structure Py (K : PySem.W.Frag) (mg : Str → Option Value) : Prop where
  d__law_sums : ∃ fd, FunD K "_law_sums" "_law_sums" (defArgs s__law_sums) (defBody s__law_sums) (defScope s__law_sums) [] [] (He.ga K "_law_sums") fd
  g__law_sums : mg "_law_sums" = some (.ref (He.ga K "_law_sums"))
  d__law_alarm : ∃ fd, FunD K "_law_alarm" "_law_alarm" (defArgs s__law_alarm) (defBody s__law_alarm) (defScope s__law_alarm) [] [] (He.ga K "_law_alarm") fd
  g__law_alarm : mg "_law_alarm" = some (.ref (He.ga K "_law_alarm"))
  d__law_draw : ∃ fd, FunD K "_law_draw" "_law_draw" (defArgs s__law_draw) (defBody s__law_draw) (defScope s__law_draw) [] [] (He.ga K "_law_draw") fd
  g__law_draw : mg "_law_draw" = some (.ref (He.ga K "_law_draw"))
  d__law_pick : ∃ fd, FunD K "_law_pick" "_law_pick" (defArgs s__law_pick) (defBody s__law_pick) (defScope s__law_pick) [] [] (He.ga K "_law_pick") fd
  g__law_pick : mg "_law_pick" = some (.ref (He.ga K "_law_pick"))
  d__law_pool : ∃ fd, FunD K "_law_pool" "_law_pool" (defArgs s__law_pool) (defBody s__law_pool) (defScope s__law_pool) [] [] (He.ga K "_law_pool") fd
  g__law_pool : mg "_law_pool" = some (.ref (He.ga K "_law_pool"))
  d__law_readings : ∃ fd, FunD K "_law_readings" "_law_readings" (defArgs s__law_readings) (defBody s__law_readings) (defScope s__law_readings) [] [] (He.ga K "_law_readings") fd
  g__law_readings : mg "_law_readings" = some (.ref (He.ga K "_law_readings"))
  d__law_same : ∃ fd, FunD K "_law_same" "_law_same" (defArgs s__law_same) (defBody s__law_same) (defScope s__law_same) [] [] (He.ga K "_law_same") fd
  g__law_same : mg "_law_same" = some (.ref (He.ga K "_law_same"))
  d_is_number : ∃ fd, FunD K "is_number" "is_number" (defArgs s_is_number) (defBody s_is_number) (defScope s_is_number) [.int 0, .int 1000000] [] (He.ga K "is_number") fd
  g_is_number : mg "is_number" = some (.ref (He.ga K "is_number"))
  d_checked_number : ∃ fd, FunD K "checked_number" "checked_number" (defArgs s_checked_number) (defBody s_checked_number) (defScope s_checked_number) [.int 0, .int 1000000] [] (He.ga K "checked_number") fd
  g_checked_number : mg "checked_number" = some (.ref (He.ga K "checked_number"))
  d_checked_readings : ∃ fd, FunD K "checked_readings" "checked_readings" (defArgs s_checked_readings) (defBody s_checked_readings) (defScope s_checked_readings) [] [] (He.ga K "checked_readings") fd
  g_checked_readings : mg "checked_readings" = some (.ref (He.ga K "checked_readings"))
  d_sums : ∃ fd, FunD K "sums" "sums" (defArgs s_sums) (defBody s_sums) (defScope s_sums) [] [] (He.ga K "sums") fd
  g_sums : mg "sums" = some (.ref (He.ga K "sums"))
  d_low_sums : ∃ fd, FunD K "low_sums" "low_sums" (defArgs s_low_sums) (defBody s_low_sums) (defScope s_low_sums) [] [] (He.ga K "low_sums") fd
  g_low_sums : mg "low_sums" = some (.ref (He.ga K "low_sums"))
  d_least_limit : ∃ fd, FunD K "least_limit" "least_limit" (defArgs s_least_limit) (defBody s_least_limit) (defScope s_least_limit) [] [] (He.ga K "least_limit") fd
  g_least_limit : mg "least_limit" = some (.ref (He.ga K "least_limit"))
  d_least_slack : ∃ fd, FunD K "least_slack" "least_slack" (defArgs s_least_slack) (defBody s_least_slack) (defScope s_least_slack) [] [] (He.ga K "least_slack") fd
  g_least_slack : mg "least_slack" = some (.ref (He.ga K "least_slack"))
  d_runs : ∃ fd, FunD K "runs" "runs" (defArgs s_runs) (defBody s_runs) (defScope s_runs) [] [] (He.ga K "runs") fd
  g_runs : mg "runs" = some (.ref (He.ga K "runs"))
  d_longest_run : ∃ fd, FunD K "longest_run" "longest_run" (defArgs s_longest_run) (defBody s_longest_run) (defScope s_longest_run) [] [] (He.ga K "longest_run") fd
  g_longest_run : mg "longest_run" = some (.ref (He.ga K "longest_run"))
  d_first_alarm : ∃ fd, FunD K "first_alarm" "first_alarm" (defArgs s_first_alarm) (defBody s_first_alarm) (defScope s_first_alarm) [] [] (He.ga K "first_alarm") fd
  g_first_alarm : mg "first_alarm" = some (.ref (He.ga K "first_alarm"))
  d_resets : ∃ fd, FunD K "resets" "resets" (defArgs s_resets) (defBody s_resets) (defScope s_resets) [] [] (He.ga K "resets") fd
  g_resets : mg "resets" = some (.ref (He.ga K "resets"))
  d_law : ∃ fd, FunD K "law" "law" (defArgs s_law) (defBody s_law) (defScope s_law) [] [] (He.ga K "law") fd
  g_law : mg "law" = some (.ref (He.ga K "law"))
  z_abs : mg ("abs" : Str) = none
  z_bool : mg ("bool" : Str) = none
  z_int : mg ("int" : Str) = none
  z_isinstance : mg ("isinstance" : Str) = none
  z_len : mg ("len" : Str) = none
  z_list : mg ("list" : Str) = none
  z_max : mg ("max" : Str) = none
  z_range : mg ("range" : Str) = none
  z_str : mg ("str" : Str) = none
  z_tuple : mg ("tuple" : Str) = none
  i_FAR : ∃ t, mg ("FAR" : Str) = some (.int (1000000000) t)
  i_GREATEST : ∃ t, mg ("GREATEST" : Str) = some (.int (1000000) t)
  i_MOST : ∃ t, mg ("MOST" : Str) = some (.int (400) t)
theorem py_of {K : PySem.W.Frag} {h : Heap} {mg : Str → Option Value} (X : K.In h) (G : h.Ns mainGlobals mg) (c : He.SaysD fA fn K) : Py K mg where
  d__law_sums := c.def_ 0 (d := d__law_sums) rfl
  g__law_sums := He.glo_ok X G (c.fact 0 (f := .glo "_law_sums") rfl)
  d__law_alarm := c.def_ 1 (d := d__law_alarm) rfl
  g__law_alarm := He.glo_ok X G (c.fact 1 (f := .glo "_law_alarm") rfl)
  d__law_draw := c.def_ 2 (d := d__law_draw) rfl
  g__law_draw := He.glo_ok X G (c.fact 2 (f := .glo "_law_draw") rfl)
  d__law_pick := c.def_ 3 (d := d__law_pick) rfl
  g__law_pick := He.glo_ok X G (c.fact 3 (f := .glo "_law_pick") rfl)
  d__law_pool := c.def_ 4 (d := d__law_pool) rfl
  g__law_pool := He.glo_ok X G (c.fact 4 (f := .glo "_law_pool") rfl)
  d__law_readings := c.def_ 5 (d := d__law_readings) rfl
  g__law_readings := He.glo_ok X G (c.fact 5 (f := .glo "_law_readings") rfl)
  d__law_same := c.def_ 6 (d := d__law_same) rfl
  g__law_same := He.glo_ok X G (c.fact 6 (f := .glo "_law_same") rfl)
  d_is_number := c.def_ 7 (d := d_is_number) rfl
  g_is_number := He.glo_ok X G (c.fact 7 (f := .glo "is_number") rfl)
  d_checked_number := c.def_ 8 (d := d_checked_number) rfl
  g_checked_number := He.glo_ok X G (c.fact 8 (f := .glo "checked_number") rfl)
  d_checked_readings := c.def_ 9 (d := d_checked_readings) rfl
  g_checked_readings := He.glo_ok X G (c.fact 9 (f := .glo "checked_readings") rfl)
  d_sums := c.def_ 10 (d := d_sums) rfl
  g_sums := He.glo_ok X G (c.fact 10 (f := .glo "sums") rfl)
  d_low_sums := c.def_ 11 (d := d_low_sums) rfl
  g_low_sums := He.glo_ok X G (c.fact 11 (f := .glo "low_sums") rfl)
  d_least_limit := c.def_ 12 (d := d_least_limit) rfl
  g_least_limit := He.glo_ok X G (c.fact 12 (f := .glo "least_limit") rfl)
  d_least_slack := c.def_ 13 (d := d_least_slack) rfl
  g_least_slack := He.glo_ok X G (c.fact 13 (f := .glo "least_slack") rfl)
  d_runs := c.def_ 14 (d := d_runs) rfl
  g_runs := He.glo_ok X G (c.fact 14 (f := .glo "runs") rfl)
  d_longest_run := c.def_ 15 (d := d_longest_run) rfl
  g_longest_run := He.glo_ok X G (c.fact 15 (f := .glo "longest_run") rfl)
  d_first_alarm := c.def_ 16 (d := d_first_alarm) rfl
  g_first_alarm := He.glo_ok X G (c.fact 16 (f := .glo "first_alarm") rfl)
  d_resets := c.def_ 17 (d := d_resets) rfl
  g_resets := He.glo_ok X G (c.fact 17 (f := .glo "resets") rfl)
  d_law := c.def_ 18 (d := d_law) rfl
  g_law := He.glo_ok X G (c.fact 18 (f := .glo "law") rfl)
  z_abs := He.free_ok X G (c.fact 19 (f := .free "abs") rfl)
  z_bool := He.free_ok X G (c.fact 20 (f := .free "bool") rfl)
  z_int := He.free_ok X G (c.fact 21 (f := .free "int") rfl)
  z_isinstance := He.free_ok X G (c.fact 22 (f := .free "isinstance") rfl)
  z_len := He.free_ok X G (c.fact 23 (f := .free "len") rfl)
  z_list := He.free_ok X G (c.fact 24 (f := .free "list") rfl)
  z_max := He.free_ok X G (c.fact 25 (f := .free "max") rfl)
  z_range := He.free_ok X G (c.fact 26 (f := .free "range") rfl)
  z_str := He.free_ok X G (c.fact 27 (f := .free "str") rfl)
  z_tuple := He.free_ok X G (c.fact 28 (f := .free "tuple") rfl)
  i_FAR := He.int_ok X G (c.fact 29 (f := .int "FAR" (1000000000)) rfl)
  i_GREATEST := He.int_ok X G (c.fact 30 (f := .int "GREATEST" (1000000)) rfl)
  i_MOST := He.int_ok X G (c.fact 31 (f := .int "MOST" (400)) rfl)
end GP

namespace GP
open PySem PySem.Spec PyProof.Rows L2 G
section
variable {P : Program} {w : World} {K : PySem.W.Frag} {mg : Str → Option Value} {base : Heap}
theorem c__law_draw (Y : Py K mg) : Cal P w K mg base 1 "_law_draw" (spO K SDraw) [] := by
  obtain ⟨fd, F⟩ := Y.d__law_draw
  have bb := F.bindsN (ps := ["pool", "many"]) fun _ _ _ _ _ _ us hl => match us, hl with | [_, _], _ => rfl
  refine ⟨_, fd, _, [], fn_OD F sc__law_draw (fun xs ds y xs' h => by obtain ⟨_, _, _, _, rfl, _⟩ := h; rfl) (by decide) (fun cdv A outer s H E hr l xs ds y xs' h => ?_), Y.g__law_draw, F.kp, bb, .nil⟩
  obtain ⟨p, n, r, rfl, rfl, ⟨n0, n1, a0⟩, hr', rfl, rfl⟩ := h
  -- the last part, from any pool
  have tail : ∀ (q : Pool) (s2 s3 : Sl), r = drawEnd q n → BD (cxOf (L2.CX P w) P w K mg base n__law_draw "_law_draw" (defScope s__law_draw) (He.ga K "_law_draw") cdv A outer s H E) (WB E) ((defBody s__law_draw).drop 2) [.o (some l) (.l (pl q)), .d (.int n), s2, s3, .un] { rt := fun x ρ => x = .int r.1 ∧ ρ[0]? = some (.o (some l) (.l (pl r.2))), nx := fun ρ => PyData.int r.1 = .none ∧ ρ[0]? = some (.o (some l) (.l (pl r.2))) } := by
    intro q s2 s3 e
    subst e
    refine bd_seq (sd_setix (ix := 4) (n := 4) 0 (pd_add (pd_ixO (i := 4) 0 rfl pd_int rfl rfl) pd_int) rfl pd_int rfl rfl rfl) ?_
    refine bd_seq (sd_set 4 (pd_mod (by decide) (pd_int1 Y.z_int (pd_add (pd_add (pd_mul (.inr (by decide)) (pd_ixO (i := 3) 0 rfl pd_int rfl rfl) pd_int) (pd_mul (.inr (by decide)) (pd_ixO (i := 4) 0 rfl pd_int rfl rfl) pd_int)) pd_int)) pd_int) rfl sc__law_draw.nd) ?_
    refine bd_seq (sd_set 4 (pd_mod (by decide) (pd_int1 Y.z_int (pd_add (pd_mul ?m1 (pd_var 4 rfl) (pd_var 4 rfl)) (pd_mul (.inr (by decide)) (pd_ixO (i := 4) 0 rfl pd_int rfl rfl) pd_int))) pd_int) rfl sc__law_draw.nd) ?_
    case m1 => 
      refine .inl ⟨?_, ?_⟩
      · have := Int.emod_nonneg (q.c * 48271 + (q.d + 1) * 69621 + 7919) (show (2147483647 : Int) ≠ 0 by decide)
        omega
      · have := Int.emod_lt_of_pos (q.c * 48271 + (q.d + 1) * 69621 + 7919) (show (0 : Int) < 2147483647 by decide)
        omega
    exact bd_one (sd_ret (pd_mod n0 (pd_int1 Y.z_int (pd_var 4 rfl)) (pd_var 1 rfl)) ⟨rfl, rfl⟩)
  refine bd_env (ρ' := [.o (some l) (.l (pl p)), .d (.int n), .un, .un, .un]) rfl ?_
  refine bd_guard (td_gt (pd_ixO (i := 2) 0 rfl pd_int rfl rfl) pd_int) (fun hk => ?_) (fun hk => ?_)
  · have hk := of_decide_eq_true hk
    have e : drawP p n = (p.b % n, { p with b := p.b / n }) := by unfold drawP; rw [if_pos hk]
    rw [e] at hr'
    subst hr'
    refine bd_seq (sd_set 2 (pd_mod n0 (pd_int1 Y.z_int (pd_ixO (i := 2) 0 rfl pd_int rfl rfl)) (pd_var 1 rfl)) rfl sc__law_draw.nd) ?_
    refine bd_seq (sd_setix (ix := 2) (n := 2) 0 (pd_fdiv ⟨n0, n1⟩ (pd_ixO (i := 2) 0 rfl pd_int rfl rfl) (pd_var 1 rfl)) rfl pd_int rfl rfl rfl) ?_
    exact bd_one (sd_ret (pd_var 2 rfl) ⟨rfl, rfl⟩)
  · have hk := of_decide_eq_false hk
    have e0 : drawP p n = if decide (p.d % 8 = 0) && decide (p.a < p.l.length) then
        let cell : Int := (gI p.l p.a).natAbs
        if cell ≥ 10 ^ 18 then (cell % n, { p with a := p.a + 1, b := cell / n })
        else drawEnd { p with a := p.a + 1, c := cell } n
      else drawEnd p n := by unfold drawP; rw [if_neg hk]
    rw [e0] at hr'
    refine bd_cut (fun ρ => ∃ (q : Pool) (s2 s3 : Sl), ρ = [.o (some l) (.l (pl q)), .d (.int n), s2, s3, .un] ∧ r = drawEnd q n) (sd_if (k := decide (p.d % 8 = 0) && decide (p.a < p.l.length)) (td_w (wd_and (td_eqI (pd_mod (by decide) (pd_int1 Y.z_int (pd_ixO (i := 4) 0 rfl pd_int rfl rfl)) pd_int) pd_int) fun _ => wd_and1 (td_lt (pd_ixO (i := 1) 0 rfl pd_int rfl rfl) (pd_lenD Y.z_len (pd_ixO (i := 0) 0 rfl pd_int rfl rfl))))) (fun hk2 => ?a) (fun hk2 => ?b)) (fun ρ1 h => ?_)
    case b =>
      rw [hk2] at hr'
      exact bd_nil ⟨p, .un, .un, rfl, hr'⟩
    case a =>
      rw [hk2] at hr'
      obtain ⟨h8, ha⟩ := Bool.and_eq_true_iff.mp hk2
      have ha := of_decide_eq_true ha
      have hr' : r = if (((gI p.l p.a).natAbs : Nat) : Int) ≥ 10 ^ 18 then (((gI p.l p.a).natAbs : Int) % n, { p with a := p.a + 1, b := ((gI p.l p.a).natAbs : Int) / n })
        else drawEnd { p with a := p.a + 1, c := ((gI p.l p.a).natAbs : Int) } n := hr'
      refine bd_seq (sd_set 3 (pd_abs Y.z_abs (pd_gixD (f := PyData.int) (ns := p.l) (i := p.a) ⟨by omega, ha⟩ (pd_ixO (i := 0) 0 rfl pd_int rfl rfl) (pd_ixO (i := 1) 0 rfl pd_int rfl rfl))) rfl sc__law_draw.nd) ?_
      refine bd_seq (sd_setix (ix := 1) (n := 1) 0 (pd_add (pd_ixO (i := 1) 0 rfl pd_int rfl rfl) pd_int) rfl pd_int rfl rfl rfl) ?_
      refine bd_guard (td_ge (pd_var 3 rfl) (pd_pow ⟨by decide, by decide, by decide⟩ pd_int pd_int)) (fun hk3 => ?_) (fun hk3 => ?_)
      · have hk3 := of_decide_eq_true hk3
        have hk3 : ((gI p.l p.a).natAbs : Int) ≥ 10 ^ 18 := hk3
        rw [if_pos hk3] at hr'
        subst hr'
        refine bd_seq (sd_setix (ix := 2) (n := 2) 0 (pd_fdiv ⟨n0, n1⟩ (pd_var 3 rfl) (pd_var 1 rfl)) rfl pd_int rfl rfl rfl) ?_
        exact bd_one (sd_ret (pd_mod n0 (pd_int1 Y.z_int (pd_var 3 rfl)) (pd_var 1 rfl)) ⟨rfl, rfl⟩)
      · have hk3 := of_decide_eq_false hk3
        have hk3 : ¬ ((gI p.l p.a).natAbs : Int) ≥ 10 ^ 18 := hk3
        rw [if_neg hk3] at hr'
        refine bd_one (sd_setix (ix := 3) (n := 3) 0 (pd_var 3 rfl) rfl pd_int rfl rfl ?_)
        exact ⟨_, .un, _, rfl, hr'⟩
    obtain ⟨q, s2, s3, rfl, e⟩ := h
    exact tail q s2 s3 e

def SPool (ds : List PyData) (r : Res) : Prop := ∃ ns : List Int, ds = [.list (ns.map .int)] ∧ r = .own (.l (pl ⟨ns, 0, 0, 0, 0⟩))
theorem c__law_pool (Y : Py K mg) : Cal P w K mg base 1 "_law_pool" (spD K SPool) [] := by
  obtain ⟨fd, F⟩ := Y.d__law_pool
  have bb := F.bindsN (ps := ["script"]) fun _ _ _ _ _ _ us hl => match us, hl with | [_], _ => rfl
  refine ⟨_, fd, _, [], fn_DD F sc__law_pool (fun ds r h => by obtain ⟨_, rfl, _⟩ := h; rfl) (by decide) (fun cdv A outer s H E hr ds r h => ?_), Y.g__law_pool, F.kp, bb, .nil⟩
  obtain ⟨ns, rfl, rfl⟩ := h
  exact bd_one (sd_retO (pn_lst (ad_cons (pd_n (pd_listD (f := PyData.int) (ns := ns) Y.z_list (pd_var 0 rfl))) (ad_cons pd_int (ad_cons pd_int (ad_cons pd_int (ad_cons pd_int ad_nil)))))) rfl)

def SPick (xs ds : List PyData) (y : PyData) (xs' : List PyData) : Prop := ∃ (p : Pool) (rows : List PyData) (r : Int × Pool), xs = pl p ∧ ds = [.list rows] ∧ (0 < rows.length ∧ rows.length < 100000 ∧ 0 ≤ p.a) ∧ r = drawP p rows.length ∧ rows[r.1.toNat]? = some y ∧ xs' = pl r.2
theorem c__law_pick (Y : Py K mg) : Cal P w K mg base 2 "_law_pick" (spO K SPick) [] := by
  obtain ⟨fd, F⟩ := Y.d__law_pick
  have bb := F.bindsN (ps := ["pool", "rows"]) fun _ _ _ _ _ _ us hl => match us, hl with | [_, _], _ => rfl
  refine ⟨_, fd, _, [], fn_OD F sc__law_pick (fun xs ds y xs' h => by obtain ⟨_, _, _, _, rfl, _⟩ := h; rfl) (by decide) (fun cdv A outer s H E hr l xs ds y xs' h => ?_), Y.g__law_pick, F.kp, bb, .nil⟩
  obtain ⟨p, rows, r, rfl, rfl, ⟨n0, n1, a0⟩, hr', hy, rfl⟩ := h
  have bd := draw_bd p (n := (rows.length : Int)) (by omega)
  rw [← hr'] at bd
  refine bd_one (sd_ret (x := y) (pd_ixL (i := r.1) (xs := rows) ?e srcN (pq_d (pd_var 1 rfl)) (pd_callO 0 (c__law_draw Y) hr .nil rfl (ad_cons (pd_len (xs := rows) Y.z_len (pq_d (pd_var 1 rfl)) srcN) ad_nil) rfl ⟨p, (rows.length : Int), r, rfl, rfl, ⟨by omega, by omega, a0⟩, hr', rfl, rfl⟩)) ⟨rfl, rfl⟩)
  unfold atI ixN
  rw [if_pos bd.1, if_pos bd.2]
  exact hy

theorem c__law_same (Y : Py K mg) : ∀ d : Nat, Cal P w K mg base (d + 1) "_law_same" (spD K (SSame d)) [] := by
  obtain ⟨fd, F⟩ := Y.d__law_same
  have bb := F.bindsN (ps := ["actual", "due"]) fun _ _ _ _ _ _ us hl => match us, hl with | [_, _], _ => rfl
  suffices h : ∀ d : Nat, FnOk P w K mg base (L2.CX P w) (d + 1) (He.ga K "_law_same") fd [("actual" : Str), ("due" : Str)] (spD K (SSame d)) by
    exact fun d => ⟨_, fd, _, [], h d, Y.g__law_same, F.kp, bb, .nil⟩
  intro d
  induction d with
  | zero =>
    refine fn_DD F sc__law_same (fun ds r h => by obtain ⟨_, rfl, _⟩ := h; rfl) (by decide) (fun cdv A outer s H E hr ds r h => ?_)
    obtain ⟨x, rfl, nx, rfl⟩ := h
    refine bd_env (ρ' := [.d x, .d x, .un]) rfl ?_
    cases nx with
    | non =>
      refine bd_guard (k := true) (td_isN (x := .none) (pd_var 1 rfl)) (fun _ => ?_) (fun h => nomatch h)
      exact bd_one (sd_ret (pd_isN (x := .none) (pd_var 0 rfl)) rfl)
    | bl b =>
      refine bd_guard (k := false) (td_isN (x := .bool b) (pd_var 1 rfl)) (fun h => nomatch h) (fun _ => ?_)
      refine bd_guard (k := false || false) (td_val (pd_isi2 (x := .bool b) (T := "tuple") (U := "list") rfl (show kitB "bool" "tuple" = some false by decide +kernel) (show kitB "bool" "list" = some false by decide +kernel) Y.z_isinstance (pe_cls Y.z_tuple rfl) (pe_cls Y.z_list rfl) (pd_var 1 rfl))) (fun h => nomatch h) (fun _ => ?_)
      refine bd_guard (k := true) (td_val (pd_isi (x := .bool b) (T := "bool") rfl (show kitB "bool" "bool" = some true by decide +kernel) Y.z_isinstance (pe_cls Y.z_bool rfl) (pd_var 1 rfl))) (fun _ => ?_) (fun h => nomatch h)
      exact bd_one (sd_ret (pd_and_t (pd_isi (x := .bool b) (T := "bool") rfl (show kitB "bool" "bool" = some true by decide +kernel) Y.z_isinstance (pe_cls Y.z_bool rfl) (pd_var 0 rfl)) (pd_one (pd_eq hr.units rfl rfl (pd_var 0 rfl) (pd_var 1 rfl)))) (by show PyData.bool (PyData.eqv (.bool b) (.bool b)) = .bool true; simp [PyData.eqv]))
    | int i =>
      refine bd_guard (k := false) (td_isN (x := .int i) (pd_var 1 rfl)) (fun h => nomatch h) (fun _ => ?_)
      refine bd_guard (k := false || false) (td_val (pd_isi2 (x := .int i) (T := "tuple") (U := "list") rfl (show kitB "int" "tuple" = some false by decide +kernel) (show kitB "int" "list" = some false by decide +kernel) Y.z_isinstance (pe_cls Y.z_tuple rfl) (pe_cls Y.z_list rfl) (pd_var 1 rfl))) (fun h => nomatch h) (fun _ => ?_)
      refine bd_guard (k := false) (td_val (pd_isi (x := .int i) (T := "bool") rfl (show kitB "int" "bool" = some false by decide +kernel) Y.z_isinstance (pe_cls Y.z_bool rfl) (pd_var 1 rfl))) (fun h => nomatch h) (fun _ => ?_)
      refine bd_guard (k := true) (td_val (pd_isi (x := .int i) (T := "int") rfl (show kitB "int" "int" = some true by decide +kernel) Y.z_isinstance (pe_cls Y.z_int rfl) (pd_var 1 rfl))) (fun _ => ?_) (fun h => nomatch h)
      exact bd_one (sd_ret (pd_and_t (pd_isi (x := .int i) (T := "int") rfl (show kitB "int" "int" = some true by decide +kernel) Y.z_isinstance (pe_cls Y.z_int rfl) (pd_var 0 rfl)) (pd_and_t (pd_not (k := false) (pd_isi (x := .int i) (T := "bool") rfl (show kitB "int" "bool" = some false by decide +kernel) Y.z_isinstance (pe_cls Y.z_bool rfl) (pd_var 0 rfl))) (pd_one (pd_eqI (pd_var 0 rfl) (pd_var 1 rfl))))) (by show PyData.bool (decide (i = i)) = .bool true; simp))
    | str t =>
      refine bd_guard (k := false) (td_isN (x := .str t) (pd_var 1 rfl)) (fun h => nomatch h) (fun _ => ?_)
      refine bd_guard (k := false || false) (td_val (pd_isi2 (x := .str t) (T := "tuple") (U := "list") rfl (show kitB "str" "tuple" = some false by decide +kernel) (show kitB "str" "list" = some false by decide +kernel) Y.z_isinstance (pe_cls Y.z_tuple rfl) (pe_cls Y.z_list rfl) (pd_var 1 rfl))) (fun h => nomatch h) (fun _ => ?_)
      refine bd_guard (k := false) (td_val (pd_isi (x := .str t) (T := "bool") rfl (show kitB "str" "bool" = some false by decide +kernel) Y.z_isinstance (pe_cls Y.z_bool rfl) (pd_var 1 rfl))) (fun h => nomatch h) (fun _ => ?_)
      refine bd_guard (k := false) (td_val (pd_isi (x := .str t) (T := "int") rfl (show kitB "str" "int" = some false by decide +kernel) Y.z_isinstance (pe_cls Y.z_int rfl) (pd_var 1 rfl))) (fun h => nomatch h) (fun _ => ?_)
      exact bd_one (sd_ret (pd_and_t (pd_isi (x := .str t) (T := "str") rfl (show kitB "str" "str" = some true by decide +kernel) Y.z_isinstance (pe_cls Y.z_str rfl) (pd_var 0 rfl)) (pd_one (pd_eqS (pd_var 0 rfl) (pd_var 1 rfl)))) (by show PyData.bool (decide (t = t)) = .bool true; simp))
  | succ d ih =>
    refine fn_DD F sc__law_same (fun ds r h => by obtain ⟨_, rfl, _⟩ := h; rfl) (by decide) (fun cdv A outer s H E hr ds r h => ?_)
    obtain ⟨x, rfl, nx, rfl⟩ := h
    have C : Cal P w K mg base (d + 1) "_law_same" (spD K (SSame d)) [] := ⟨_, fd, _, [], ih, Y.g__law_same, F.kp, bb, .nil⟩
    refine bd_env (ρ' := [.d x, .d x, .un]) rfl ?_
    cases nx with
    | non =>
      refine bd_guard (k := true) (td_isN (x := .none) (pd_var 1 rfl)) (fun _ => ?_) (fun h => nomatch h)
      exact bd_one (sd_ret (pd_isN (x := .none) (pd_var 0 rfl)) rfl)
    | bl b =>
      refine bd_guard (k := false) (td_isN (x := .bool b) (pd_var 1 rfl)) (fun h => nomatch h) (fun _ => ?_)
      refine bd_guard (k := false || false) (td_val (pd_isi2 (x := .bool b) (T := "tuple") (U := "list") rfl (show kitB "bool" "tuple" = some false by decide +kernel) (show kitB "bool" "list" = some false by decide +kernel) Y.z_isinstance (pe_cls Y.z_tuple rfl) (pe_cls Y.z_list rfl) (pd_var 1 rfl))) (fun h => nomatch h) (fun _ => ?_)
      refine bd_guard (k := true) (td_val (pd_isi (x := .bool b) (T := "bool") rfl (show kitB "bool" "bool" = some true by decide +kernel) Y.z_isinstance (pe_cls Y.z_bool rfl) (pd_var 1 rfl))) (fun _ => ?_) (fun h => nomatch h)
      exact bd_one (sd_ret (pd_and_t (pd_isi (x := .bool b) (T := "bool") rfl (show kitB "bool" "bool" = some true by decide +kernel) Y.z_isinstance (pe_cls Y.z_bool rfl) (pd_var 0 rfl)) (pd_one (pd_eq hr.units rfl rfl (pd_var 0 rfl) (pd_var 1 rfl)))) (by show PyData.bool (PyData.eqv (.bool b) (.bool b)) = .bool true; simp [PyData.eqv]))
    | int i =>
      refine bd_guard (k := false) (td_isN (x := .int i) (pd_var 1 rfl)) (fun h => nomatch h) (fun _ => ?_)
      refine bd_guard (k := false || false) (td_val (pd_isi2 (x := .int i) (T := "tuple") (U := "list") rfl (show kitB "int" "tuple" = some false by decide +kernel) (show kitB "int" "list" = some false by decide +kernel) Y.z_isinstance (pe_cls Y.z_tuple rfl) (pe_cls Y.z_list rfl) (pd_var 1 rfl))) (fun h => nomatch h) (fun _ => ?_)
      refine bd_guard (k := false) (td_val (pd_isi (x := .int i) (T := "bool") rfl (show kitB "int" "bool" = some false by decide +kernel) Y.z_isinstance (pe_cls Y.z_bool rfl) (pd_var 1 rfl))) (fun h => nomatch h) (fun _ => ?_)
      refine bd_guard (k := true) (td_val (pd_isi (x := .int i) (T := "int") rfl (show kitB "int" "int" = some true by decide +kernel) Y.z_isinstance (pe_cls Y.z_int rfl) (pd_var 1 rfl))) (fun _ => ?_) (fun h => nomatch h)
      exact bd_one (sd_ret (pd_and_t (pd_isi (x := .int i) (T := "int") rfl (show kitB "int" "int" = some true by decide +kernel) Y.z_isinstance (pe_cls Y.z_int rfl) (pd_var 0 rfl)) (pd_and_t (pd_not (k := false) (pd_isi (x := .int i) (T := "bool") rfl (show kitB "int" "bool" = some false by decide +kernel) Y.z_isinstance (pe_cls Y.z_bool rfl) (pd_var 0 rfl))) (pd_one (pd_eqI (pd_var 0 rfl) (pd_var 1 rfl))))) (by show PyData.bool (decide (i = i)) = .bool true; simp))
    | str t =>
      refine bd_guard (k := false) (td_isN (x := .str t) (pd_var 1 rfl)) (fun h => nomatch h) (fun _ => ?_)
      refine bd_guard (k := false || false) (td_val (pd_isi2 (x := .str t) (T := "tuple") (U := "list") rfl (show kitB "str" "tuple" = some false by decide +kernel) (show kitB "str" "list" = some false by decide +kernel) Y.z_isinstance (pe_cls Y.z_tuple rfl) (pe_cls Y.z_list rfl) (pd_var 1 rfl))) (fun h => nomatch h) (fun _ => ?_)
      refine bd_guard (k := false) (td_val (pd_isi (x := .str t) (T := "bool") rfl (show kitB "str" "bool" = some false by decide +kernel) Y.z_isinstance (pe_cls Y.z_bool rfl) (pd_var 1 rfl))) (fun h => nomatch h) (fun _ => ?_)
      refine bd_guard (k := false) (td_val (pd_isi (x := .str t) (T := "int") rfl (show kitB "str" "int" = some false by decide +kernel) Y.z_isinstance (pe_cls Y.z_int rfl) (pd_var 1 rfl))) (fun h => nomatch h) (fun _ => ?_)
      exact bd_one (sd_ret (pd_and_t (pd_isi (x := .str t) (T := "str") rfl (show kitB "str" "str" = some true by decide +kernel) Y.z_isinstance (pe_cls Y.z_str rfl) (pd_var 0 rfl)) (pd_one (pd_eqS (pd_var 0 rfl) (pd_var 1 rfl)))) (by show PyData.bool (decide (t = t)) = .bool true; simp))
    | @lst _ xs hl hx =>
      refine bd_guard (k := false) (td_isN (x := .list xs) (pd_var 1 rfl)) (fun h => nomatch h) (fun _ => ?_)
      refine bd_guard_end (sd_if (k := false || true) (td_val (pd_isi2 (x := .list xs) (T := "tuple") (U := "list") rfl (show kitB "list" "tuple" = some false by decide +kernel) (show kitB "list" "list" = some true by decide +kernel) Y.z_isinstance (pe_cls Y.z_tuple rfl) (pe_cls Y.z_list rfl) (pd_var 1 rfl))) (fun _ => ?_) (fun h => nomatch h))
      refine bd_guard (k := false || false) (td_w (wd_or (td_ne hr.units rfl rfl (pd_isi (x := .list xs) (k := false) (T := "tuple") rfl (show kitB "list" "tuple" = some false by decide +kernel) Y.z_isinstance (pe_cls Y.z_tuple rfl) (pd_var 1 rfl)) (pd_isi (x := .list xs) (k := false) (T := "tuple") rfl (show kitB "list" "tuple" = some false by decide +kernel) Y.z_isinstance (pe_cls Y.z_tuple rfl) (pd_var 0 rfl))) fun _ => wd_or1 (td_ne hr.units rfl rfl (pd_isi (x := .list xs) (k := true) (T := "list") rfl (show kitB "list" "list" = some true by decide +kernel) Y.z_isinstance (pe_cls Y.z_list rfl) (pd_var 1 rfl)) (pd_isi (x := .list xs) (k := true) (T := "list") rfl (show kitB "list" "list" = some true by decide +kernel) Y.z_isinstance (pe_cls Y.z_list rfl) (pd_var 0 rfl))))) (fun h => nomatch h) (fun _ => ?_)
      refine bd_guard (k := !decide ((xs.length : Int) = (xs.length : Int))) (td_neI (pd_len (xs := xs) Y.z_len (pq_d (pd_var 0 rfl)) srcN) (pd_len (xs := xs) Y.z_len (pq_d (pd_var 1 rfl)) srcN)) (fun h => absurd h (by simp)) (fun _ => ?_)
      refine bd_cut (fun r => True) (sd_forF (List.range xs.length) (fun i : Nat => PyData.int (i : Int)) (fun _ : Unit => [.d (.list xs), .d (.list xs), .un]) (fun _ _ => ()) () (fun _ _ => True) (passes_of rfl) rfl (id_range0 (n := xs.length) Y.z_range (pd_len (xs := xs) Y.z_len (pq_d (pd_var 1 rfl)) srcN) (by omega)) (Le.refl _) trivial (fun _ => trivial) (fun i s a ha hs pv => ⟨_, gd_name 2 sc__law_same.nd, ?_⟩) (fun _ _ _ => trivial)) (fun r _ => bd_one (sd_ret pd_bl rfl))
      have hlt : a < xs.length := by
        have := List.mem_of_getElem? ha
        simpa using this
      refine bd_one (sd_if (k := !true) (td_not (td_val (pd_call C hr .nil (ad_cons (pd_ixL (i := (a : Int)) (xs := xs) (x := xs[a]) (atI_nat (List.getElem?_eq_getElem hlt)) srcN (pq_d (pd_var 0 rfl)) (pd_var 2 rfl)) (ad_cons (pd_ixL (i := (a : Int)) (xs := xs) (x := xs[a]) (atI_nat (List.getElem?_eq_getElem hlt)) srcN (pq_d (pd_var 1 rfl)) (pd_var 2 rfl)) ad_nil)) ⟨xs[a], rfl, hx _ (List.getElem_mem hlt), rfl⟩ (Nat.le_refl _)))) (fun h => nomatch h) (fun _ => bd_nil ⟨by repeat (first | exact Le.nil | apply Le.eq | apply Le.un), trivial⟩))
    | @tup _ xs hl hx =>
      refine bd_guard (k := false) (td_isN (x := .tuple xs) (pd_var 1 rfl)) (fun h => nomatch h) (fun _ => ?_)
      refine bd_guard_end (sd_if (k := true || false) (td_val (pd_isi2 (x := .tuple xs) (T := "tuple") (U := "list") rfl (show kitB "tuple" "tuple" = some true by decide +kernel) (show kitB "tuple" "list" = some false by decide +kernel) Y.z_isinstance (pe_cls Y.z_tuple rfl) (pe_cls Y.z_list rfl) (pd_var 1 rfl))) (fun _ => ?_) (fun h => nomatch h))
      refine bd_guard (k := false || false) (td_w (wd_or (td_ne hr.units rfl rfl (pd_isi (x := .tuple xs) (k := true) (T := "tuple") rfl (show kitB "tuple" "tuple" = some true by decide +kernel) Y.z_isinstance (pe_cls Y.z_tuple rfl) (pd_var 1 rfl)) (pd_isi (x := .tuple xs) (k := true) (T := "tuple") rfl (show kitB "tuple" "tuple" = some true by decide +kernel) Y.z_isinstance (pe_cls Y.z_tuple rfl) (pd_var 0 rfl))) fun _ => wd_or1 (td_ne hr.units rfl rfl (pd_isi (x := .tuple xs) (k := false) (T := "list") rfl (show kitB "tuple" "list" = some false by decide +kernel) Y.z_isinstance (pe_cls Y.z_list rfl) (pd_var 1 rfl)) (pd_isi (x := .tuple xs) (k := false) (T := "list") rfl (show kitB "tuple" "list" = some false by decide +kernel) Y.z_isinstance (pe_cls Y.z_list rfl) (pd_var 0 rfl))))) (fun h => nomatch h) (fun _ => ?_)
      refine bd_guard (k := !decide ((xs.length : Int) = (xs.length : Int))) (td_neI (pd_lenT (xs := xs) Y.z_len (pd_var 0 rfl)) (pd_lenT (xs := xs) Y.z_len (pd_var 1 rfl))) (fun h => absurd h (by simp)) (fun _ => ?_)
      refine bd_cut (fun r => True) (sd_forF (List.range xs.length) (fun i : Nat => PyData.int (i : Int)) (fun _ : Unit => [.d (.tuple xs), .d (.tuple xs), .un]) (fun _ _ => ()) () (fun _ _ => True) (passes_of rfl) rfl (id_range0 (n := xs.length) Y.z_range (pd_lenT (xs := xs) Y.z_len (pd_var 1 rfl)) (by omega)) (Le.refl _) trivial (fun _ => trivial) (fun i s a ha hs pv => ⟨_, gd_name 2 sc__law_same.nd, ?_⟩) (fun _ _ _ => trivial)) (fun r _ => bd_one (sd_ret pd_bl rfl))
      have hlt : a < xs.length := by
        have := List.mem_of_getElem? ha
        simpa using this
      refine bd_one (sd_if (k := !true) (td_not (td_val (pd_call C hr .nil (ad_cons (pd_ixT (i := (a : Int)) (xs := xs) (x := xs[a]) (atI_nat (List.getElem?_eq_getElem hlt)) (pd_var 0 rfl) (pd_var 2 rfl)) (ad_cons (pd_ixT (i := (a : Int)) (xs := xs) (x := xs[a]) (atI_nat (List.getElem?_eq_getElem hlt)) (pd_var 1 rfl) (pd_var 2 rfl)) ad_nil)) ⟨xs[a], rfl, hx _ (List.getElem_mem hlt), rfl⟩ (Nat.le_refl _)))) (fun h => nomatch h) (fun _ => bd_nil ⟨by repeat (first | exact Le.nil | apply Le.eq | apply Le.un), trivial⟩))
end
end GP

namespace GP
open PySem PySem.Spec PyProof.Rows L2 G
section
variable {P : Program} {w : World} {K : PySem.W.Frag} {mg : Str → Option Value} {base : Heap}

def m_checked_number (v l m : Int) : Int := v
def m_is_number (value_ : Int) (least_ : Int) (most_ : Int) : Bool :=
  (if (false || (!true)) = true then false else ((decide (least_ ≤ value_)) && (decide (value_ ≤ most_))))
def S_is_number (ds : List PyData) (r : Res) : Prop := ∃ (value_ : Int) (least_ : Int) (most_ : Int), ds = [(PyData.int value_), (PyData.int least_), (PyData.int most_)] ∧ (True) ∧ r = .ret (PyData.bool (m_is_number value_ least_ most_))
theorem f_is_number (Y : Py K mg) {fd : FuncData} (F : FunD K "is_number" "is_number" (defArgs s_is_number) (defBody s_is_number) (defScope s_is_number) [.int 0, .int 1000000] [] (He.ga K "is_number") fd) : FnOk P w K mg base (L2.CX P w) 1 (He.ga K "is_number") fd [("value" : Str), ("least" : Str), ("most" : Str)] (spD K S_is_number) := by
  refine fn_DD F sc_is_number (fun ds r h => by obtain ⟨_, _, _, rfl, _⟩ := h; rfl) (by decide) (fun cdv A outer s H E hr ds r h => ?_)
  obtain ⟨value_, least_, most_, rfl, pre, rfl⟩ := h
  refine bd_env (ρ' := [.d (PyData.int value_), .d (PyData.int least_), .d (PyData.int most_)]) rfl ?_
  -- hk1: if isinstance(value, bool) or not isinstance(value, int)
  refine bd_guard (k := (false || (!true))) (td_w (wd_or (td_val (pd_isi (x := (PyData.int value_)) (T := "bool") (k := false) rfl (show kitB "int" "bool" = some false by decide +kernel) Y.z_isinstance (pe_cls Y.z_bool rfl) (pd_var 0 rfl))) (fun hw => (wd_or1 (td_not (td_val (pd_isi (x := (PyData.int value_)) (T := "int") (k := true) rfl (show kitB "int" "int" = some true by decide +kernel) Y.z_isinstance (pe_cls Y.z_int rfl) (pd_var 0 rfl)))))))) (fun hk1 => ?_) (fun hk1 => ?_)
  · skip
    have hk1f := hk1; try simp only [decide_eq_true_eq, decide_eq_false_iff_not, Bool.and_eq_true, Bool.or_eq_true, Bool.not_eq_true', Bool.not_eq_false', Bool.and_eq_false_iff, Bool.or_eq_false_iff, Bool.not_true, Bool.not_false, List.isEmpty_iff] at hk1f
    exact bd_one (sd_ret (x := (PyData.bool false)) pd_bl (by subst_vars; first | rfl | (simp only [m_is_number, hk1, if_true, if_false, Bool.false_eq_true, ↓reduceIte]; done) | (simp only [m_is_number, hk1, if_true, if_false, Bool.false_eq_true, ↓reduceIte]; rfl)))
  · skip
    have hk1f := hk1; try simp only [decide_eq_true_eq, decide_eq_false_iff_not, Bool.and_eq_true, Bool.or_eq_true, Bool.not_eq_true', Bool.not_eq_false', Bool.and_eq_false_iff, Bool.or_eq_false_iff, Bool.not_true, Bool.not_false, List.isEmpty_iff] at hk1f
    exact bd_one (sd_ret (x := (PyData.bool ((decide (least_ ≤ value_)) && (decide (value_ ≤ most_))))) (pd_chain (f := (fun i j => decide (i ≤ j))) (g := (fun i j => decide (i ≤ j))) (i := least_) (j := value_) (l := most_) rfl rfl (pd_var 1 rfl) (pd_var 0 rfl) (fun _ => (pd_var 2 rfl))) (by subst_vars; first | rfl | (simp only [m_is_number, hk1, if_true, if_false, Bool.false_eq_true, ↓reduceIte]; done) | (simp only [m_is_number, hk1, if_true, if_false, Bool.false_eq_true, ↓reduceIte]; rfl)))
theorem c_is_number_3 (Y : Py K mg) : Cal P w K mg base 1 "is_number" (spD K S_is_number) [] := by
  obtain ⟨fd, F⟩ := Y.d_is_number
  obtain ⟨ds, v, b⟩ := F.binds1 (ps := [("value" : Str), ("least" : Str), ("most" : Str)]) 3 2 (by simp) rfl fun _ _ _ _ _ _ _ us its h1 h2 => match us, its, h1, h2 with | [_, _, _], [_, _], _, _ => ⟨_, rfl, rfl⟩
  exact ⟨_, fd, _, ds, f_is_number Y F, Y.g_is_number, F.kp, b, v⟩
def S_checked_number (ds : List PyData) (r : Res) : Prop := ∃ (value_ : Int) (least_ : Int) (most_ : Int), ds = [(PyData.int value_), (PyData.int least_), (PyData.int most_)] ∧ (least_ ≤ value_ ∧ value_ ≤ most_) ∧ r = .ret (PyData.int (m_checked_number value_ least_ most_))
theorem f_checked_number (Y : Py K mg) {fd : FuncData} (F : FunD K "checked_number" "checked_number" (defArgs s_checked_number) (defBody s_checked_number) (defScope s_checked_number) [.int 0, .int 1000000] [] (He.ga K "checked_number") fd) : FnOk P w K mg base (L2.CX P w) 2 (He.ga K "checked_number") fd [("value" : Str), ("least" : Str), ("most" : Str)] (spD K S_checked_number) := by
  refine fn_DD F sc_checked_number (fun ds r h => by obtain ⟨_, _, _, rfl, _⟩ := h; rfl) (by decide) (fun cdv A outer s H E hr ds r h => ?_)
  obtain ⟨value_, least_, most_, rfl, pre, rfl⟩ := h
  have e : m_is_number value_ least_ most_ = true := by simp [m_is_number, pre.1, pre.2]
  refine bd_env (ρ' := [.d (PyData.int value_), .d (PyData.int least_), .d (PyData.int most_)]) rfl ?_
  -- hk2: if not is_number(value, least, most)
  refine bd_guard (k := (!(m_is_number value_ least_ most_))) (td_not (td_val (pd_call (c_is_number_3 Y) hr .nil (ad_cons (pd_var 0 rfl) (ad_cons (pd_var 1 rfl) (ad_cons (pd_var 2 rfl) ad_nil))) ⟨value_, least_, most_, rfl, (/- side 0 -/ trivial), rfl⟩))) (fun hk2 => ?_) (fun hk2 => ?_)
  · skip
    have hk2f := hk2; try simp only [decide_eq_true_eq, decide_eq_false_iff_not, Bool.and_eq_true, Bool.or_eq_true, Bool.not_eq_true', Bool.not_eq_false', Bool.and_eq_false_iff, Bool.or_eq_false_iff, Bool.not_true, Bool.not_false, List.isEmpty_iff] at hk2f
    exfalso; first | omega | simp_all
  · skip
    have hk2f := hk2; try simp only [decide_eq_true_eq, decide_eq_false_iff_not, Bool.and_eq_true, Bool.or_eq_true, Bool.not_eq_true', Bool.not_eq_false', Bool.and_eq_false_iff, Bool.or_eq_false_iff, Bool.not_true, Bool.not_false, List.isEmpty_iff] at hk2f
    exact bd_one (sd_ret (x := (PyData.int value_)) (pd_var 0 rfl) (by subst_vars; first | rfl | (simp only [m_checked_number, hk2, if_true, if_false, Bool.false_eq_true, ↓reduceIte]; done) | (simp only [m_checked_number, hk2, if_true, if_false, Bool.false_eq_true, ↓reduceIte]; rfl)))
theorem c_checked_number_1 (Y : Py K mg) : Cal P w K mg base 2 "checked_number" (spD K S_checked_number) [.int 0, .int 1000000] := by
  obtain ⟨fd, F⟩ := Y.d_checked_number
  obtain ⟨ds, v, b⟩ := F.binds1 (ps := [("value" : Str), ("least" : Str), ("most" : Str)]) 1 0 (by simp) rfl fun _ _ _ _ _ _ _ us its h1 h2 => match us, its, h1, h2 with | [_], [_, _], _, _ => ⟨_, rfl, rfl⟩
  exact ⟨_, fd, _, ds, f_checked_number Y F, Y.g_checked_number, F.kp, b, v⟩
theorem c_checked_number_3 (Y : Py K mg) : Cal P w K mg base 2 "checked_number" (spD K S_checked_number) [] := by
  obtain ⟨fd, F⟩ := Y.d_checked_number
  obtain ⟨ds, v, b⟩ := F.binds1 (ps := [("value" : Str), ("least" : Str), ("most" : Str)]) 3 2 (by simp) rfl fun _ _ _ _ _ _ _ us its h1 h2 => match us, its, h1, h2 with | [_, _, _], [_, _], _, _ => ⟨_, rfl, rfl⟩
  exact ⟨_, fd, _, ds, f_checked_number Y F, Y.g_checked_number, F.kp, b, v⟩
def m_checked_readings (readings_ : (List Int)) : (List Int) :=
  (if (decide (400 < (readings_.length : Int))) = true then default else (readings_.map (fun (a4 : Int) => (m_checked_number a4 (-1000000) 1000000))))
def S_checked_readings (ds : List PyData) (r : Res) : Prop := ∃ (readings_ : (List Int)), ds = [((dL PyData.int) readings_)] ∧ ((∀ x ∈ readings_, -1000000 ≤ x ∧ x ≤ 1000000) ∧ readings_.length ≤ 400) ∧ r = .ret ((dL PyData.int) (m_checked_readings readings_))
theorem f_checked_readings (Y : Py K mg) {fd : FuncData} (F : FunD K "checked_readings" "checked_readings" (defArgs s_checked_readings) (defBody s_checked_readings) (defScope s_checked_readings) [] [] (He.ga K "checked_readings") fd) : FnOk P w K mg base (L2.CX P w) 3 (He.ga K "checked_readings") fd [("readings" : Str)] (spD K S_checked_readings) := by
  refine fn_DD F sc_checked_readings (fun ds r h => by obtain ⟨_, rfl, _⟩ := h; rfl) (by decide) (fun cdv A outer s H E hr ds r h => ?_)
  obtain ⟨readings_, rfl, pre, rfl⟩ := h
  refine bd_env (ρ' := [.d ((dL PyData.int) readings_), .un]) rfl ?_
  -- hk3: if len(readings) > MOST
  refine bd_guard (k := (decide (400 < (readings_.length : Int)))) (td_gt (pd_lenD (f := PyData.int) (ns := readings_) Y.z_len (pd_var 0 rfl)) (pd_gint (Y.i_MOST).choose_spec)) (fun hk3 => ?_) (fun hk3 => ?_)
  · skip
    have hk3f := hk3; try simp only [decide_eq_true_eq, decide_eq_false_iff_not, Bool.and_eq_true, Bool.or_eq_true, Bool.not_eq_true', Bool.not_eq_false', Bool.and_eq_false_iff, Bool.or_eq_false_iff, Bool.not_true, Bool.not_false, List.isEmpty_iff] at hk3f
    exfalso; first | omega | simp_all
  · skip
    have hk3f := hk3; try simp only [decide_eq_true_eq, decide_eq_false_iff_not, Bool.and_eq_true, Bool.or_eq_true, Bool.not_eq_true', Bool.not_eq_false', Bool.and_eq_false_iff, Bool.or_eq_false_iff, Bool.not_true, Bool.not_false, List.isEmpty_iff] at hk3f
    exact bd_one (sd_ret (x := ((dL PyData.int) (readings_.map (fun (a4 : Int) => (m_checked_number a4 (-1000000) 1000000))))) (pd_n (pn_lc (lcN readings_ PyData.int PyData.int (fun (a4 : Int) => (m_checked_number a4 (-1000000) 1000000)) (blkOk_by (own := [("reading", 1)]) (show blkC n_checked_readings (defScope s_checked_readings) _ _ = true by decide +kernel)) (id_listD (f := PyData.int) (ns := readings_) (pd_var 0 rfl)) (/- side 2 -/ by first | assumption | omega) (by intro _ h; cases h) (by trivial) (fun a4 ha => ⟨_, _, (fun Z hZ => by obtain ⟨s1, H1, C1, cl1, fp1, rfl⟩ := hZ; exact (gv_name 1 (by decide) sc_checked_readings.nd)), (fun Z hZ => by obtain ⟨s1, H1, C1, cl1, fp1, rfl⟩ := hZ; exact (pd_call (c_checked_number_3 Y) hr .nil (ad_cons (pd_var 1 rfl) (ad_cons (pd_neg pd_int) (ad_cons pd_int ad_nil))) ⟨a4, (-1000000), 1000000, rfl, (/- side 1 -/ by first | trivial | assumption | omega | (exact pre.1 _ ha) | (exact pre.1) | (exact pre.1.1) | (exact pre.2) | (exact pre _ ha) | (refine ⟨?_, ?_⟩ <;> omega) | (refine ⟨?_, ?_, ?_⟩ <;> omega)), rfl⟩)), (by repeat (first | exact Le.nil | apply Le.eq | apply Le.un)), (by repeat (first | exact Le.nil | apply Le.eq | apply Le.un))⟩)) sc_checked_readings.nd)) (by subst_vars; first | rfl | (simp only [m_checked_readings, hk3, if_true, if_false, Bool.false_eq_true, ↓reduceIte]; done) | (simp only [m_checked_readings, hk3, if_true, if_false, Bool.false_eq_true, ↓reduceIte]; rfl)))
theorem c_checked_readings (Y : Py K mg) : Cal P w K mg base 3 "checked_readings" (spD K S_checked_readings) [] := by
  obtain ⟨fd, F⟩ := Y.d_checked_readings
  exact ⟨_, fd, _, [], f_checked_readings Y F, Y.g_checked_readings, F.kp, F.bindsN (ps := [("readings" : Str)]) fun _ _ _ _ _ _ us hl => match us, hl with | [_], _ => rfl, .nil⟩
theorem cr_eq (r : List Int) (h : r.length ≤ 400) : m_checked_readings r = r := by
  unfold m_checked_readings
  rw [if_neg (by simp; omega)]
  simp [m_checked_number]
theorem cr_len (r : List Int) (h : r.length ≤ 400) : (m_checked_readings r).length = r.length := by rw [cr_eq r h]
theorem neg_ok (r : List Int) (h : (∀ x ∈ r, -1000000 ≤ x ∧ x ≤ 1000000) ∧ r.length ≤ 400) : (∀ x ∈ (m_checked_readings r).map (fun a => -a), -1000000 ≤ x ∧ x ≤ 1000000) ∧ ((m_checked_readings r).map (fun a => -a)).length ≤ 400 := by
  rw [cr_eq r h.2]
  refine ⟨fun x hx => ?_, by rw [List.length_map]; exact h.2⟩
  obtain ⟨y, hy, rfl⟩ := List.mem_map.mp hx
  have := h.1 y hy
  omega

def m_sums (readings_ : (List Int)) (middle_ : Int) (slack_ : Int) : (List Int) :=
  ((m_checked_readings readings_).foldl (fun (s5 : Int × (List Int)) (a6 : Int) => (let total_9 : Int := (max 0 (((s5.1 + a6) - middle_) - slack_)); (total_9, (s5.2 ++ [total_9])))) (0, [])).2
def S_sums (ds : List PyData) (r : Res) : Prop := ∃ (readings_ : (List Int)) (middle_ : Int) (slack_ : Int), ds = [((dL PyData.int) readings_), (PyData.int middle_), (PyData.int slack_)] ∧ (((∀ x ∈ readings_, -1000000 ≤ x ∧ x ≤ 1000000) ∧ readings_.length ≤ 400) ∧ -1000000 ≤ middle_ ∧ middle_ ≤ 1000000 ∧ 0 ≤ slack_ ∧ slack_ ≤ 1000000) ∧ r = .ret ((dL PyData.int) (m_sums readings_ middle_ slack_))
theorem f_sums (Y : Py K mg) {fd : FuncData} (F : FunD K "sums" "sums" (defArgs s_sums) (defBody s_sums) (defScope s_sums) [] [] (He.ga K "sums") fd) : FnOk P w K mg base (L2.CX P w) 4 (He.ga K "sums") fd [("readings" : Str), ("middle" : Str), ("slack" : Str)] (spD K S_sums) := by
  refine fn_DD F sc_sums (fun ds r h => by obtain ⟨_, _, _, rfl, _⟩ := h; rfl) (by decide) (fun cdv A outer s H E hr ds r h => ?_)
  obtain ⟨readings_, middle_, slack_, rfl, pre, rfl⟩ := h
  refine bd_env (ρ' := [.d ((dL PyData.int) readings_), .d (PyData.int middle_), .d (PyData.int slack_), .un, .un, .un]) rfl ?_
  refine bd_seq (sd_expr (pd_call (c_checked_number_3 Y) hr .nil (ad_cons (pd_var 1 rfl) (ad_cons (pd_neg pd_int) (ad_cons pd_int ad_nil))) ⟨middle_, (-1000000), 1000000, rfl, (/- side 0 -/ by first | trivial | assumption | omega | (exact pre.1 _ ha) | (exact pre.1) | (exact pre.1.1) | (exact pre.2) | (exact pre _ ha) | (refine ⟨?_, ?_⟩ <;> omega) | (refine ⟨?_, ?_, ?_⟩ <;> omega)), rfl⟩) rfl) ?_
  refine bd_seq (sd_expr (pd_call (c_checked_number_1 Y) hr (.int (.int .nil)) (ad_cons (pd_var 2 rfl) ad_nil) ⟨slack_, (0), (1000000), rfl, (/- side 1 -/ by first | trivial | assumption | omega | (exact pre.1 _ ha) | (exact pre.1) | (exact pre.1.1) | (exact pre.2) | (exact pre _ ha) | (refine ⟨?_, ?_⟩ <;> omega) | (refine ⟨?_, ?_, ?_⟩ <;> omega)), rfl⟩) rfl) ?_
  refine bd_seq (sd_setN 3 (pn_lst ad_nil) rfl sc_sums.nd) ?_
  refine bd_env (ρ' := [.d ((dL PyData.int) readings_), .d (PyData.int middle_), .d (PyData.int slack_), .ol ([].map PyData.int), .un, .un]) rfl ?_
  refine bd_seq (sd_set 4 pd_int rfl sc_sums.nd) ?_
  refine bd_env (ρ' := [.d ((dL PyData.int) readings_), .d (PyData.int middle_), .d (PyData.int slack_), .ol ([].map PyData.int), .d (PyData.int 0), .un]) rfl ?_
  refine bd_cut (fun r => ∃ s5 : Int × (List Int), s5 = (m_checked_readings readings_).foldl (fun (s5 : Int × (List Int)) (a6 : Int) => (let total_9 : Int := (max 0 (((s5.1 + a6) - middle_) - slack_)); (total_9, (s5.2 ++ [total_9])))) (0, []) ∧ Le [.d ((dL PyData.int) readings_), .d (PyData.int middle_), .d (PyData.int slack_), .ol ((s5.2).map PyData.int), .d (PyData.int (s5.1)), .un] r ∧ (fun (i7 : Nat) (s5 : Int × (List Int)) => s5.2.length = i7) (m_checked_readings readings_).length s5) (sd_forF (m_checked_readings readings_) PyData.int (fun s5 : Int × (List Int) => [.d ((dL PyData.int) readings_), .d (PyData.int middle_), .d (PyData.int slack_), .ol ((s5.2).map PyData.int), .d (PyData.int (s5.1)), .un]) (fun (s5 : Int × (List Int)) (a6 : Int) => (let total_9 : Int := (max 0 (((s5.1 + a6) - middle_) - slack_)); (total_9, (s5.2 ++ [total_9])))) (0, []) (fun (i7 : Nat) (s5 : Int × (List Int)) => s5.2.length = i7) (passes_of rfl) rfl (id_listD (f := PyData.int) (ns := (m_checked_readings readings_)) (pd_call (c_checked_readings Y) hr .nil (ad_cons (pd_var 0 rfl) ad_nil) ⟨readings_, rfl, (/- side 2 -/ by first | trivial | assumption | omega | (exact pre.1 _ ha) | (exact pre.1) | (exact pre.1.1) | (exact pre.2) | (exact pre _ ha) | (refine ⟨?_, ?_⟩ <;> omega) | (refine ⟨?_, ?_, ?_⟩ <;> omega)), rfl⟩)) (by repeat (first | exact Le.nil | apply Le.eq | apply Le.un)) (by first | trivial | omega | assumption | simp) (fun _ => trivial) (fun i7 s5 a6 ha hs10 pv => ⟨_, (gd_name 5 sc_sums.nd), ?_⟩) (fun s5 hs10 pv => ⟨_, hs10, Le.refl _, pv⟩)) ?_
  · try dsimp only at pv
    have hi : i7 < (m_checked_readings readings_).length := by
      by_cases z : i7 < (m_checked_readings readings_).length
      · exact z
      · rw [List.getElem?_eq_none (by omega)] at ha; cases ha
    rw [cr_len _ pre.1.2] at hi
    refine bd_env (ρ' := [.d ((dL PyData.int) readings_), .d (PyData.int middle_), .d (PyData.int slack_), .ol ((s5.2).map PyData.int), .d (PyData.int (s5.1)), .d (PyData.int a6)]) rfl ?_
    refine bd_seq (sd_set 4 (pd_max2 rfl Y.z_max pd_int (pd_sub (pd_sub (pd_add (pd_var 4 rfl) (pd_var 5 rfl)) (pd_var 1 rfl)) (pd_var 2 rfl))) rfl sc_sums.nd) ?_
    refine bd_env (ρ' := [.d ((dL PyData.int) readings_), .d (PyData.int middle_), .d (PyData.int slack_), .ol ((s5.2).map PyData.int), .d (PyData.int (max 0 (((s5.1 + a6) - middle_) - slack_))), .d (PyData.int a6)]) rfl ?_
    generalize htotal_9 : ((max 0 (((s5.1 + a6) - middle_) - slack_)) : Int) = total_9
    refine bd_seq (sd_appendM (f := PyData.int) (ns := (s5.2)) (v := total_9) 3 rfl (pd_var 4 rfl) rfl (/- side 3 -/ by first | assumption | omega) rfl) ?_
    refine bd_env (ρ' := [.d ((dL PyData.int) readings_), .d (PyData.int middle_), .d (PyData.int slack_), .ol ((s5.2 ++ [total_9]).map PyData.int), .d (PyData.int total_9), .d (PyData.int a6)]) rfl ?_
    refine bd_nil ⟨(by subst_vars; (try simp only [if_true, if_false, Bool.false_eq_true, ↓reduceIte]); repeat (first | exact Le.nil | apply Le.eq | apply Le.un)), (by simp [pv])⟩
  rintro r ⟨s5, hs10, hle, pv⟩
  refine bd_le hle ?_
  clear hle
  try dsimp only at pv
  subst hs10
  exact bd_one (sd_ret (x := ((dL PyData.int) (((m_checked_readings readings_).foldl (fun (s5 : Int × (List Int)) (a6 : Int) => (let total_9 : Int := (max 0 (((s5.1 + a6) - middle_) - slack_)); (total_9, (s5.2 ++ [total_9])))) (0, [])).2))) (pd_thaw 3 rfl) (by subst_vars; first | rfl | (simp only [m_sums, if_true, if_false, Bool.false_eq_true, ↓reduceIte]; done) | (simp only [m_sums, if_true, if_false, Bool.false_eq_true, ↓reduceIte]; rfl)))
theorem c_sums (Y : Py K mg) : Cal P w K mg base 4 "sums" (spD K S_sums) [] := by
  obtain ⟨fd, F⟩ := Y.d_sums
  exact ⟨_, fd, _, [], f_sums Y F, Y.g_sums, F.kp, F.bindsN (ps := [("readings" : Str), ("middle" : Str), ("slack" : Str)]) fun _ _ _ _ _ _ us hl => match us, hl with | [_, _, _], _ => rfl, .nil⟩
theorem sums_len (r : List Int) (m s : Int) (h : (∀ x ∈ r, -1000000 ≤ x ∧ x ≤ 1000000) ∧ r.length ≤ 400) : (m_sums r m s).length = r.length := by
  unfold m_sums
  rw [cr_eq r h.2]
  have key : ∀ (r : List Int) (t : Int) (f : List Int), (r.foldl (fun (s5 : Int × (List Int)) (a6 : Int) => ((max 0 (((s5.1 + a6) - m) - s)), (s5.2 ++ [(max 0 (((s5.1 + a6) - m) - s))]))) (t, f)).2.length = f.length + r.length := by
    intro r
    induction r with
    | nil => intro t f; rfl
    | cons x r ih => intro t f; rw [List.foldl_cons, ih]; simp; omega
  rw [key]; simp

def m_low_sums (readings_ : (List Int)) (middle_ : Int) (slack_ : Int) : (List Int) :=
  (m_sums ((m_checked_readings readings_).map (fun (a11 : Int) => (-a11))) (-(m_checked_number middle_ (-1000000) 1000000)) slack_)
def S_low_sums (ds : List PyData) (r : Res) : Prop := ∃ (readings_ : (List Int)) (middle_ : Int) (slack_ : Int), ds = [((dL PyData.int) readings_), (PyData.int middle_), (PyData.int slack_)] ∧ (((∀ x ∈ readings_, -1000000 ≤ x ∧ x ≤ 1000000) ∧ readings_.length ≤ 400) ∧ -1000000 ≤ middle_ ∧ middle_ ≤ 1000000 ∧ 0 ≤ slack_ ∧ slack_ ≤ 1000000) ∧ r = .ret ((dL PyData.int) (m_low_sums readings_ middle_ slack_))
theorem f_low_sums (Y : Py K mg) {fd : FuncData} (F : FunD K "low_sums" "low_sums" (defArgs s_low_sums) (defBody s_low_sums) (defScope s_low_sums) [] [] (He.ga K "low_sums") fd) : FnOk P w K mg base (L2.CX P w) 5 (He.ga K "low_sums") fd [("readings" : Str), ("middle" : Str), ("slack" : Str)] (spD K S_low_sums) := by
  refine fn_DD F sc_low_sums (fun ds r h => by obtain ⟨_, _, _, rfl, _⟩ := h; rfl) (by decide) (fun cdv A outer s H E hr ds r h => ?_)
  obtain ⟨readings_, middle_, slack_, rfl, pre, rfl⟩ := h
  refine bd_env (ρ' := [.d ((dL PyData.int) readings_), .d (PyData.int middle_), .d (PyData.int slack_), .un]) rfl ?_
  exact bd_one (sd_ret (x := ((dL PyData.int) (m_sums ((m_checked_readings readings_).map (fun (a11 : Int) => (-a11))) (-(m_checked_number middle_ (-1000000) 1000000)) slack_))) (pd_call (c_sums Y) hr .nil (ad_cons (pd_n (pn_lc (lcN (m_checked_readings readings_) PyData.int PyData.int (fun (a11 : Int) => (-a11)) (blkOk_by (own := [("reading", 3)]) (show blkC n_low_sums (defScope s_low_sums) _ _ = true by decide +kernel)) (id_listD (f := PyData.int) (ns := (m_checked_readings readings_)) (pd_call (c_checked_readings Y) hr .nil (ad_cons (pd_var 0 rfl) ad_nil) ⟨readings_, rfl, (/- side 0 -/ by first | trivial | assumption | omega | (exact pre.1 _ ha) | (exact pre.1) | (exact pre.1.1) | (exact pre.2) | (exact pre _ ha) | (refine ⟨?_, ?_⟩ <;> omega) | (refine ⟨?_, ?_, ?_⟩ <;> omega)), rfl⟩)) (/- side 1 -/ by rw [cr_len _ pre.1.2]; omega) (by intro _ h; cases h) (by trivial) (fun a11 ha => ⟨_, _, (fun Z hZ => by obtain ⟨s1, H1, C1, cl1, fp1, rfl⟩ := hZ; exact (gv_name 3 (by decide) sc_low_sums.nd)), (fun Z hZ => by obtain ⟨s1, H1, C1, cl1, fp1, rfl⟩ := hZ; exact (pd_neg (pd_var 3 rfl))), (by repeat (first | exact Le.nil | apply Le.eq | apply Le.un)), (by repeat (first | exact Le.nil | apply Le.eq | apply Le.un))⟩)) sc_low_sums.nd)) (ad_cons (pd_neg (pd_call (c_checked_number_3 Y) hr .nil (ad_cons (pd_var 1 rfl) (ad_cons (pd_neg pd_int) (ad_cons pd_int ad_nil))) ⟨middle_, (-1000000), 1000000, rfl, (/- side 2 -/ by first | trivial | assumption | omega | (exact pre.1 _ ha) | (exact pre.1) | (exact pre.1.1) | (exact pre.2) | (exact pre _ ha) | (refine ⟨?_, ?_⟩ <;> omega) | (refine ⟨?_, ?_, ?_⟩ <;> omega)), rfl⟩)) (ad_cons (pd_var 2 rfl) ad_nil))) ⟨((m_checked_readings readings_).map (fun (a11 : Int) => (-a11))), (-(m_checked_number middle_ (-1000000) 1000000)), slack_, rfl, (/- side 3 -/ ⟨neg_ok _ pre.1, by simp only [m_checked_number]; omega⟩), rfl⟩) (by subst_vars; first | rfl | (simp only [m_low_sums, if_true, if_false, Bool.false_eq_true, ↓reduceIte]; done) | (simp only [m_low_sums, if_true, if_false, Bool.false_eq_true, ↓reduceIte]; rfl)))
theorem c_low_sums (Y : Py K mg) : Cal P w K mg base 5 "low_sums" (spD K S_low_sums) [] := by
  obtain ⟨fd, F⟩ := Y.d_low_sums
  exact ⟨_, fd, _, [], f_low_sums Y F, Y.g_low_sums, F.kp, F.bindsN (ps := [("readings" : Str), ("middle" : Str), ("slack" : Str)]) fun _ _ _ _ _ _ us hl => match us, hl with | [_, _, _], _ => rfl, .nil⟩
theorem low_len (r : List Int) (m s : Int) (h : (∀ x ∈ r, -1000000 ≤ x ∧ x ≤ 1000000) ∧ r.length ≤ 400) : (m_low_sums r m s).length = r.length := by
  unfold m_low_sums
  rw [sums_len _ _ _ (neg_ok r h), List.length_map, cr_len r h.2]

def m_least_limit (readings_ : (List Int)) (middle_ : Int) (slack_ : Int) : Int :=
  (lmax (([0] ++ (m_sums readings_ middle_ slack_)) ++ (m_low_sums readings_ middle_ slack_)))
def S_least_limit (ds : List PyData) (r : Res) : Prop := ∃ (readings_ : (List Int)) (middle_ : Int) (slack_ : Int), ds = [((dL PyData.int) readings_), (PyData.int middle_), (PyData.int slack_)] ∧ (((∀ x ∈ readings_, -1000000 ≤ x ∧ x ≤ 1000000) ∧ readings_.length ≤ 400) ∧ -1000000 ≤ middle_ ∧ middle_ ≤ 1000000 ∧ 0 ≤ slack_ ∧ slack_ ≤ 1000000) ∧ r = .ret (PyData.int (m_least_limit readings_ middle_ slack_))
theorem f_least_limit (Y : Py K mg) {fd : FuncData} (F : FunD K "least_limit" "least_limit" (defArgs s_least_limit) (defBody s_least_limit) (defScope s_least_limit) [] [] (He.ga K "least_limit") fd) : FnOk P w K mg base (L2.CX P w) 6 (He.ga K "least_limit") fd [("readings" : Str), ("middle" : Str), ("slack" : Str)] (spD K S_least_limit) := by
  refine fn_DD F sc_least_limit (fun ds r h => by obtain ⟨_, _, _, rfl, _⟩ := h; rfl) (by decide) (fun cdv A outer s H E hr ds r h => ?_)
  obtain ⟨readings_, middle_, slack_, rfl, pre, rfl⟩ := h
  refine bd_env (ρ' := [.d ((dL PyData.int) readings_), .d (PyData.int middle_), .d (PyData.int slack_)]) rfl ?_
  exact bd_one (sd_ret (x := (PyData.int (lmax (([0] ++ (m_sums readings_ middle_ slack_)) ++ (m_low_sums readings_ middle_ slack_))))) (pd_maxD (ns := (([0] ++ (m_sums readings_ middle_ slack_)) ++ (m_low_sums readings_ middle_ slack_))) rfl Y.z_max (/- side 4 -/ by simp) (pd_n (pn_catM (f := PyData.int) (ns := ([0] ++ (m_sums readings_ middle_ slack_))) (ms := (m_low_sums readings_ middle_ slack_)) (pq_d (pd_n (pn_catM (f := PyData.int) (ns := [0]) (ms := (m_sums readings_ middle_ slack_)) (pq_d (pd_n (pn_lst (ad_cons pd_int ad_nil)))) srcN (pq_d (pd_call (c_sums Y) hr .nil (ad_cons (pd_var 0 rfl) (ad_cons (pd_var 1 rfl) (ad_cons (pd_var 2 rfl) ad_nil))) ⟨readings_, middle_, slack_, rfl, (/- side 0 -/ by exact pre), rfl⟩)) srcN (/- side 1 -/ by rw [sums_len _ _ _ pre.1]; simp; omega)))) srcN (pq_d (pd_call (c_low_sums Y) hr .nil (ad_cons (pd_var 0 rfl) (ad_cons (pd_var 1 rfl) (ad_cons (pd_var 2 rfl) ad_nil))) ⟨readings_, middle_, slack_, rfl, (/- side 2 -/ by exact pre), rfl⟩)) srcN (/- side 3 -/ by rw [List.length_append, sums_len _ _ _ pre.1, low_len _ _ _ pre.1]; simp; omega)))) (by subst_vars; first | rfl | (simp only [m_least_limit, if_true, if_false, Bool.false_eq_true, ↓reduceIte]; done) | (simp only [m_least_limit, if_true, if_false, Bool.false_eq_true, ↓reduceIte]; rfl)))
theorem c_least_limit (Y : Py K mg) : Cal P w K mg base 6 "least_limit" (spD K S_least_limit) [] := by
  obtain ⟨fd, F⟩ := Y.d_least_limit
  exact ⟨_, fd, _, [], f_least_limit Y F, Y.g_least_limit, F.kp, F.bindsN (ps := [("readings" : Str), ("middle" : Str), ("slack" : Str)]) fun _ _ _ _ _ _ us hl => match us, hl with | [_, _, _], _ => rfl, .nil⟩
def m_first_alarm (readings_ : (List Int)) (middle_ : Int) (slack_ : Int) (limit_ : Int) : (Option Int) :=
  (let high_12 : (List Int) := (m_sums readings_ middle_ slack_); (let low_13 : (List Int) := (m_low_sums readings_ middle_ slack_); (match (List.range (high_12.length)).foldlM (fun (s14 : Unit) (a15 : Nat) => ((if ((decide (limit_ < (gI high_12 (a15 : Int)))) || (decide (limit_ < (gI low_13 (a15 : Int))))) = true then (.error (some (a15 : Int))) else (.ok ())) : Except (Option Int) (Unit))) () with | .error q20 => q20 | .ok s14 => none)))
def S_first_alarm (ds : List PyData) (r : Res) : Prop := ∃ (readings_ : (List Int)) (middle_ : Int) (slack_ : Int) (limit_ : Int), ds = [((dL PyData.int) readings_), (PyData.int middle_), (PyData.int slack_), (PyData.int limit_)] ∧ ((((∀ x ∈ readings_, -1000000 ≤ x ∧ x ≤ 1000000) ∧ readings_.length ≤ 400) ∧ -1000000 ≤ middle_ ∧ middle_ ≤ 1000000 ∧ 0 ≤ slack_ ∧ slack_ ≤ 1000000) ∧ 0 ≤ limit_ ∧ limit_ ≤ 1000000000) ∧ r = .ret ((dO PyData.int) (m_first_alarm readings_ middle_ slack_ limit_))
theorem f_first_alarm (Y : Py K mg) {fd : FuncData} (F : FunD K "first_alarm" "first_alarm" (defArgs s_first_alarm) (defBody s_first_alarm) (defScope s_first_alarm) [] [] (He.ga K "first_alarm") fd) : FnOk P w K mg base (L2.CX P w) 6 (He.ga K "first_alarm") fd [("readings" : Str), ("middle" : Str), ("slack" : Str), ("limit" : Str)] (spD K S_first_alarm) := by
  refine fn_DD F sc_first_alarm (fun ds r h => by obtain ⟨_, _, _, _, rfl, _⟩ := h; rfl) (by decide) (fun cdv A outer s H E hr ds r h => ?_)
  obtain ⟨readings_, middle_, slack_, limit_, rfl, pre, rfl⟩ := h
  refine bd_env (ρ' := [.d ((dL PyData.int) readings_), .d (PyData.int middle_), .d (PyData.int slack_), .d (PyData.int limit_), .un, .un, .un]) rfl ?_
  refine bd_seq (sd_expr (pd_call (c_checked_number_3 Y) hr .nil (ad_cons (pd_var 3 rfl) (ad_cons pd_int (ad_cons (pd_gint (Y.i_FAR).choose_spec) ad_nil))) ⟨limit_, 0, 1000000000, rfl, (/- side 0 -/ by first | trivial | assumption | omega | (exact pre.1 _ ha) | (exact pre.1) | (exact pre.1.1) | (exact pre.2) | (exact pre _ ha) | (refine ⟨?_, ?_⟩ <;> omega) | (refine ⟨?_, ?_, ?_⟩ <;> omega)), rfl⟩) rfl) ?_
  refine bd_seq (sd_set 4 (pd_call (c_sums Y) hr .nil (ad_cons (pd_var 0 rfl) (ad_cons (pd_var 1 rfl) (ad_cons (pd_var 2 rfl) ad_nil))) ⟨readings_, middle_, slack_, rfl, (/- side 1 -/ by exact pre.1), rfl⟩) rfl sc_first_alarm.nd) ?_
  refine bd_env (ρ' := [.d ((dL PyData.int) readings_), .d (PyData.int middle_), .d (PyData.int slack_), .d (PyData.int limit_), .d ((dL PyData.int) (m_sums readings_ middle_ slack_)), .un, .un]) rfl ?_
  generalize hhigh_12 : ((m_sums readings_ middle_ slack_) : (List Int)) = high_12
  have lh : high_12.length = readings_.length := by rw [← hhigh_12]; exact sums_len _ _ _ pre.1.1
  refine bd_seq (sd_set 5 (pd_call (c_low_sums Y) hr .nil (ad_cons (pd_var 0 rfl) (ad_cons (pd_var 1 rfl) (ad_cons (pd_var 2 rfl) ad_nil))) ⟨readings_, middle_, slack_, rfl, (/- side 2 -/ by exact pre.1), rfl⟩) rfl sc_first_alarm.nd) ?_
  refine bd_env (ρ' := [.d ((dL PyData.int) readings_), .d (PyData.int middle_), .d (PyData.int slack_), .d (PyData.int limit_), .d ((dL PyData.int) high_12), .d ((dL PyData.int) (m_low_sums readings_ middle_ slack_)), .un]) rfl ?_
  generalize hlow_13 : ((m_low_sums readings_ middle_ slack_) : (List Int)) = low_13
  have ll : low_13.length = readings_.length := by rw [← hlow_13]; exact low_len _ _ _ pre.1.1
  refine bd_cut (fun r => ∃ s14 : Unit, (List.range (high_12.length)).foldlM (fun (s14 : Unit) (a15 : Nat) => ((if ((decide (limit_ < (gI high_12 (a15 : Int)))) || (decide (limit_ < (gI low_13 (a15 : Int))))) = true then (.error (some (a15 : Int))) else (.ok ())) : Except (Option Int) (Unit))) () = .ok s14 ∧ Le [.d ((dL PyData.int) readings_), .d (PyData.int middle_), .d (PyData.int slack_), .d (PyData.int limit_), .d ((dL PyData.int) high_12), .d ((dL PyData.int) low_13), .un] r ∧ (fun (i16 : Nat) (s14 : Unit) => True) (List.range (high_12.length)).length s14) (sd_forE (R := (Option Int)) (List.range (high_12.length)) (fun i : Nat => PyData.int (i : Int)) (fun s14 : Unit => [.d ((dL PyData.int) readings_), .d (PyData.int middle_), .d (PyData.int slack_), .d (PyData.int limit_), .d ((dL PyData.int) high_12), .d ((dL PyData.int) low_13), .un]) (fun (s14 : Unit) (a15 : Nat) => ((if ((decide (limit_ < (gI high_12 (a15 : Int)))) || (decide (limit_ < (gI low_13 (a15 : Int))))) = true then (.error (some (a15 : Int))) else (.ok ())) : Except (Option Int) (Unit))) () (fun (i16 : Nat) (s14 : Unit) => True) (passes_of rfl) rfl (id_range0 Y.z_range (pd_lenD (f := PyData.int) (ns := high_12) Y.z_len (pd_var 4 rfl)) (/- side 3 -/ by first | omega | (simp; omega))) (by repeat (first | exact Le.nil | apply Le.eq | apply Le.un)) (by first | trivial | omega | assumption | simp) (fun _ => trivial) (fun i16 s14 a15 ha hs19 pv => ⟨_, (gd_name 6 sc_first_alarm.nd), ?_⟩) (fun s14 hs19 pv => ⟨_, hs19, Le.refl _, pv⟩)) ?_
  · try dsimp only at pv
    have hi : a15 < _ := List.mem_range.mp (List.mem_of_getElem? ha)
    refine bd_env (ρ' := [.d ((dL PyData.int) readings_), .d (PyData.int middle_), .d (PyData.int slack_), .d (PyData.int limit_), .d ((dL PyData.int) high_12), .d ((dL PyData.int) low_13), .d (PyData.int (a15 : Int))]) rfl ?_
    -- hk18: if high[index] > limit or low[index] > limit
    refine bd_guard (k := ((decide (limit_ < (gI high_12 (a15 : Int)))) || (decide (limit_ < (gI low_13 (a15 : Int)))))) (td_w (wd_or (td_gt (pd_gixD (f := PyData.int) (ns := high_12) (i := (a15 : Int)) (/- side 4 -/ by first | assumption | omega) (pd_var 4 rfl) (pd_var 6 rfl)) (pd_var 3 rfl)) (fun hw => (wd_or1 (td_gt (pd_gixD (f := PyData.int) (ns := low_13) (i := (a15 : Int)) (/- side 5 -/ by first | assumption | omega) (pd_var 5 rfl) (pd_var 6 rfl)) (pd_var 3 rfl)))))) (fun hk18 => ?_) (fun hk18 => ?_)
    · skip
      have hk18f := hk18; try simp only [decide_eq_true_eq, decide_eq_false_iff_not, Bool.and_eq_true, Bool.or_eq_true, Bool.not_eq_true', Bool.not_eq_false', Bool.and_eq_false_iff, Bool.or_eq_false_iff, Bool.not_true, Bool.not_false, List.isEmpty_iff] at hk18f
      exact bd_one (sd_ret (x := ((dO PyData.int) (some (a15 : Int)))) (pd_var 6 rfl) ⟨_, (by subst_vars; first | rfl | (simp only [hk18, if_true, if_false, Bool.false_eq_true, ↓reduceIte]; done) | (simp only [hk18, if_true, if_false, Bool.false_eq_true, ↓reduceIte]; rfl)), fun hq17 => (by subst_vars; first | rfl | (simp only [m_first_alarm, hq17, hk18, if_true, if_false, Bool.false_eq_true, ↓reduceIte]; done) | (simp only [m_first_alarm, hq17, hk18, if_true, if_false, Bool.false_eq_true, ↓reduceIte]; rfl))⟩)
    · skip
      have hk18f := hk18; try simp only [decide_eq_true_eq, decide_eq_false_iff_not, Bool.and_eq_true, Bool.or_eq_true, Bool.not_eq_true', Bool.not_eq_false', Bool.and_eq_false_iff, Bool.or_eq_false_iff, Bool.not_true, Bool.not_false, List.isEmpty_iff] at hk18f
      refine bd_nil ⟨(), (by subst_vars; first | rfl | (simp only [hk18, if_true, if_false, Bool.false_eq_true, ↓reduceIte]; done) | (simp only [hk18, if_true, if_false, Bool.false_eq_true, ↓reduceIte]; rfl)), (by subst_vars; repeat (first | exact Le.nil | apply Le.eq | apply Le.un)), (by first | trivial | omega | assumption)⟩
  rintro r ⟨s14, hs19, hle, pv⟩
  refine bd_le hle ?_
  clear hle
  try dsimp only at pv
  exact bd_one (sd_ret (x := ((dO PyData.int) none)) pd_non (by subst_vars; first | rfl | (simp only [m_first_alarm, hs19, if_true, if_false, Bool.false_eq_true, ↓reduceIte]; done) | (simp only [m_first_alarm, hs19, if_true, if_false, Bool.false_eq_true, ↓reduceIte]; rfl)))
theorem c_first_alarm (Y : Py K mg) : Cal P w K mg base 6 "first_alarm" (spD K S_first_alarm) [] := by
  obtain ⟨fd, F⟩ := Y.d_first_alarm
  exact ⟨_, fd, _, [], f_first_alarm Y F, Y.g_first_alarm, F.kp, F.bindsN (ps := [("readings" : Str), ("middle" : Str), ("slack" : Str), ("limit" : Str)]) fun _ _ _ _ _ _ us hl => match us, hl with | [_, _, _, _], _ => rfl, .nil⟩
def m_runs (readings_ : (List Int)) (middle_ : Int) : (List (Int × Int × Int)) :=
  (let rows_21 : (List Int) := (m_checked_readings readings_); ((List.range (rows_21.length)).foldl (fun (s22 : (List (Int × Int × Int))) (a23 : Nat) => (let side_26 : Int := ((if (decide (middle_ < (gI rows_21 (a23 : Int)))) = true then 1 else 0) - (if (decide ((gI rows_21 (a23 : Int)) < middle_)) = true then 1 else 0)); (if ((!s22.isEmpty) && (decide ((gI s22 (-1)).2.2 = side_26))) = true then (setI s22 (-1) ((gI s22 (-1)).1, ((a23 : Int) + 1), side_26)) else (s22 ++ [((a23 : Int), ((a23 : Int) + 1), side_26)])))) []))
def S_runs (ds : List PyData) (r : Res) : Prop := ∃ (readings_ : (List Int)) (middle_ : Int), ds = [((dL PyData.int) readings_), (PyData.int middle_)] ∧ ((∀ x ∈ readings_, -1000000 ≤ x ∧ x ≤ 1000000) ∧ readings_.length ≤ 400) ∧ r = .ret ((dL (dT3 PyData.int PyData.int PyData.int)) (m_runs readings_ middle_))
theorem f_runs (Y : Py K mg) {fd : FuncData} (F : FunD K "runs" "runs" (defArgs s_runs) (defBody s_runs) (defScope s_runs) [] [] (He.ga K "runs") fd) : FnOk P w K mg base (L2.CX P w) 4 (He.ga K "runs") fd [("readings" : Str), ("middle" : Str)] (spD K S_runs) := by
  refine fn_DD F sc_runs (fun ds r h => by obtain ⟨_, _, rfl, _⟩ := h; rfl) (by decide) (fun cdv A outer s H E hr ds r h => ?_)
  obtain ⟨readings_, middle_, rfl, pre, rfl⟩ := h
  refine bd_env (ρ' := [.d ((dL PyData.int) readings_), .d (PyData.int middle_), .un, .un, .un, .un]) rfl ?_
  refine bd_seq (sd_setN 2 (pn_lst ad_nil) rfl sc_runs.nd) ?_
  refine bd_env (ρ' := [.d ((dL PyData.int) readings_), .d (PyData.int middle_), .ol ([].map (dT3 PyData.int PyData.int PyData.int)), .un, .un, .un]) rfl ?_
  refine bd_seq (sd_set 3 (pd_call (c_checked_readings Y) hr .nil (ad_cons (pd_var 0 rfl) ad_nil) ⟨readings_, rfl, (/- side 0 -/ by first | trivial | assumption | omega | (exact pre.1 _ ha) | (exact pre.1) | (exact pre.1.1) | (exact pre.2) | (exact pre _ ha) | (refine ⟨?_, ?_⟩ <;> omega) | (refine ⟨?_, ?_, ?_⟩ <;> omega)), rfl⟩) rfl sc_runs.nd) ?_
  refine bd_env (ρ' := [.d ((dL PyData.int) readings_), .d (PyData.int middle_), .ol ([].map (dT3 PyData.int PyData.int PyData.int)), .d ((dL PyData.int) (m_checked_readings readings_)), .un, .un]) rfl ?_
  generalize hrows_21 : ((m_checked_readings readings_) : (List Int)) = rows_21
  have lr : rows_21.length ≤ 400 := by rw [← hrows_21, cr_len _ pre.2]; exact pre.2
  refine bd_cut (fun r => ∃ s22 : (List (Int × Int × Int)), s22 = (List.range (rows_21.length)).foldl (fun (s22 : (List (Int × Int × Int))) (a23 : Nat) => (let side_26 : Int := ((if (decide (middle_ < (gI rows_21 (a23 : Int)))) = true then 1 else 0) - (if (decide ((gI rows_21 (a23 : Int)) < middle_)) = true then 1 else 0)); (if ((!s22.isEmpty) && (decide ((gI s22 (-1)).2.2 = side_26))) = true then (setI s22 (-1) ((gI s22 (-1)).1, ((a23 : Int) + 1), side_26)) else (s22 ++ [((a23 : Int), ((a23 : Int) + 1), side_26)])))) [] ∧ Le [.d ((dL PyData.int) readings_), .d (PyData.int middle_), .ol (s22.map (dT3 PyData.int PyData.int PyData.int)), .d ((dL PyData.int) rows_21), .un, .un] r ∧ (fun (i24 : Nat) (s22 : (List (Int × Int × Int))) => s22.length ≤ i24) (List.range (rows_21.length)).length s22) (sd_forF (List.range (rows_21.length)) (fun i : Nat => PyData.int (i : Int)) (fun s22 : (List (Int × Int × Int)) => [.d ((dL PyData.int) readings_), .d (PyData.int middle_), .ol (s22.map (dT3 PyData.int PyData.int PyData.int)), .d ((dL PyData.int) rows_21), .un, .un]) (fun (s22 : (List (Int × Int × Int))) (a23 : Nat) => (let side_26 : Int := ((if (decide (middle_ < (gI rows_21 (a23 : Int)))) = true then 1 else 0) - (if (decide ((gI rows_21 (a23 : Int)) < middle_)) = true then 1 else 0)); (if ((!s22.isEmpty) && (decide ((gI s22 (-1)).2.2 = side_26))) = true then (setI s22 (-1) ((gI s22 (-1)).1, ((a23 : Int) + 1), side_26)) else (s22 ++ [((a23 : Int), ((a23 : Int) + 1), side_26)])))) [] (fun (i24 : Nat) (s22 : (List (Int × Int × Int))) => s22.length ≤ i24) (passes_of rfl) rfl (id_range0 Y.z_range (pd_lenD (f := PyData.int) (ns := rows_21) Y.z_len (pd_var 3 rfl)) (/- side 1 -/ by first | omega | (simp; omega))) (by repeat (first | exact Le.nil | apply Le.eq | apply Le.un)) (by first | trivial | omega | assumption | simp) (fun _ => trivial) (fun i24 s22 a23 ha hs28 pv => ⟨_, (gd_name 4 sc_runs.nd), ?_⟩) (fun s22 hs28 pv => ⟨_, hs28, Le.refl _, pv⟩)) ?_
  · try dsimp only at pv
    have hi : a23 < _ := List.mem_range.mp (List.mem_of_getElem? ha)
    have hi : i24 < (List.range (rows_21.length)).length := by
      by_cases z : i24 < (List.range (rows_21.length)).length
      · exact z
      · rw [List.getElem?_eq_none (by omega)] at ha; cases ha
    have hir : i24 < 400 := by rw [List.length_range] at hi; omega
    refine bd_env (ρ' := [.d ((dL PyData.int) readings_), .d (PyData.int middle_), .ol (s22.map (dT3 PyData.int PyData.int PyData.int)), .d ((dL PyData.int) rows_21), .d (PyData.int (a23 : Int)), .un]) rfl ?_
    refine bd_seq (sd_set 5 (pd_sub (pd_ift PyData.int 1 0 (td_gt (pd_gixD (f := PyData.int) (ns := rows_21) (i := (a23 : Int)) (/- side 2 -/ by first | assumption | omega) (pd_var 3 rfl) (pd_var 4 rfl)) (pd_var 1 rfl)) (fun hc => pd_int) (fun hc => pd_int)) (pd_ift PyData.int 1 0 (td_lt (pd_gixD (f := PyData.int) (ns := rows_21) (i := (a23 : Int)) (/- side 3 -/ by first | assumption | omega) (pd_var 3 rfl) (pd_var 4 rfl)) (pd_var 1 rfl)) (fun hc => pd_int) (fun hc => pd_int))) rfl sc_runs.nd) ?_
    refine bd_env (ρ' := [.d ((dL PyData.int) readings_), .d (PyData.int middle_), .ol (s22.map (dT3 PyData.int PyData.int PyData.int)), .d ((dL PyData.int) rows_21), .d (PyData.int (a23 : Int)), .d (PyData.int ((if (decide (middle_ < (gI rows_21 (a23 : Int)))) = true then 1 else 0) - (if (decide ((gI rows_21 (a23 : Int)) < middle_)) = true then 1 else 0)))]) rfl ?_
    generalize hside_26 : (((if (decide (middle_ < (gI rows_21 (a23 : Int)))) = true then 1 else 0) - (if (decide ((gI rows_21 (a23 : Int)) < middle_)) = true then 1 else 0)) : Int) = side_26
    -- hk27: if found and found[-1][2] == side
    refine bd_ite (k := ((!s22.isEmpty) && (decide ((gI s22 (-1)).2.2 = side_26)))) [.d ((dL PyData.int) readings_), .d (PyData.int middle_), .ol ((if ((!s22.isEmpty) && (decide ((gI s22 (-1)).2.2 = side_26))) = true then (setI s22 (-1) ((gI s22 (-1)).1, ((a23 : Int) + 1), side_26)) else (s22 ++ [((a23 : Int), ((a23 : Int) + 1), side_26)])).map (dT3 PyData.int PyData.int PyData.int)), .d ((dL PyData.int) rows_21), .d (PyData.int (a23 : Int)), .d (PyData.int side_26)] (td_w (wd_and (td_truthO (f := (dT3 PyData.int PyData.int PyData.int)) (ns := s22) 2 rfl) (fun hw => (wd_and1 (td_eqI (pd_ixT (i := 2) rfl (pd_gixO (f := (dT3 PyData.int PyData.int PyData.int)) (ns := s22) (i := (-1)) 2 rfl (pd_neg pd_int) rfl (/- side 4 -/ by have := ne_len hw; omega)) pd_int) (pd_var 5 rfl)))))) (fun hk27 => ?_) (fun hk27 => ?_) ?_
    · skip
      have hk27f := hk27; try simp only [decide_eq_true_eq, decide_eq_false_iff_not, Bool.and_eq_true, Bool.or_eq_true, Bool.not_eq_true', Bool.not_eq_false', Bool.and_eq_false_iff, Bool.or_eq_false_iff, Bool.not_true, Bool.not_false, List.isEmpty_iff] at hk27f
      refine bd_seq (sd_setixM (f := (dT3 PyData.int PyData.int PyData.int)) (ns := s22) (ix := (-1)) (v := ((gI s22 (-1)).1, ((a23 : Int) + 1), side_26)) 2 (pd_tup (ad_cons (pd_ixT (i := 0) rfl (pd_gixO (f := (dT3 PyData.int PyData.int PyData.int)) (ns := s22) (i := (-1)) 2 rfl (pd_neg pd_int) rfl (/- side 5 -/ by have := ne_len (Bool.and_eq_true_iff.mp hk27).1; omega)) pd_int) (ad_cons (pd_add (pd_var 4 rfl) pd_int) (ad_cons (pd_var 5 rfl) ad_nil)))) rfl (pd_neg pd_int) rfl (/- side 6 -/ by have := ne_len (Bool.and_eq_true_iff.mp hk27).1; omega) rfl) ?_
      refine bd_env (ρ' := [.d ((dL PyData.int) readings_), .d (PyData.int middle_), .ol ((setI s22 (-1) ((gI s22 (-1)).1, ((a23 : Int) + 1), side_26)).map (dT3 PyData.int PyData.int PyData.int)), .d ((dL PyData.int) rows_21), .d (PyData.int (a23 : Int)), .d (PyData.int side_26)]) rfl ?_
      exact bd_nil (by subst_vars; (try simp only [hk27, if_true, if_false, Bool.false_eq_true, ↓reduceIte]); repeat (first | exact Le.nil | apply Le.eq | apply Le.un))
    · skip
      have hk27f := hk27; try simp only [decide_eq_true_eq, decide_eq_false_iff_not, Bool.and_eq_true, Bool.or_eq_true, Bool.not_eq_true', Bool.not_eq_false', Bool.and_eq_false_iff, Bool.or_eq_false_iff, Bool.not_true, Bool.not_false, List.isEmpty_iff] at hk27f
      refine bd_seq (sd_appendM (f := (dT3 PyData.int PyData.int PyData.int)) (ns := s22) (v := ((a23 : Int), ((a23 : Int) + 1), side_26)) 2 rfl (pd_tup (ad_cons (pd_var 4 rfl) (ad_cons (pd_add (pd_var 4 rfl) pd_int) (ad_cons (pd_var 5 rfl) ad_nil)))) rfl (/- side 7 -/ by first | assumption | omega) rfl) ?_
      refine bd_env (ρ' := [.d ((dL PyData.int) readings_), .d (PyData.int middle_), .ol ((s22 ++ [((a23 : Int), ((a23 : Int) + 1), side_26)]).map (dT3 PyData.int PyData.int PyData.int)), .d ((dL PyData.int) rows_21), .d (PyData.int (a23 : Int)), .d (PyData.int side_26)]) rfl ?_
      exact bd_nil (by subst_vars; (try simp only [hk27, if_true, if_false, Bool.false_eq_true, ↓reduceIte]); repeat (first | exact Le.nil | apply Le.eq | apply Le.un))
    refine bd_nil ⟨(by subst_vars; (try simp only [if_true, if_false, Bool.false_eq_true, ↓reduceIte]); repeat (first | exact Le.nil | apply Le.eq | apply Le.un)), (by dsimp only; split <;> simp [setI_len] <;> omega)⟩
  rintro r ⟨s22, hs28, hle, pv⟩
  refine bd_le hle ?_
  clear hle
  try dsimp only at pv
  subst hs28
  exact bd_one (sd_ret (x := ((dL (dT3 PyData.int PyData.int PyData.int)) ((List.range (rows_21.length)).foldl (fun (s22 : (List (Int × Int × Int))) (a23 : Nat) => (let side_26 : Int := ((if (decide (middle_ < (gI rows_21 (a23 : Int)))) = true then 1 else 0) - (if (decide ((gI rows_21 (a23 : Int)) < middle_)) = true then 1 else 0)); (if ((!s22.isEmpty) && (decide ((gI s22 (-1)).2.2 = side_26))) = true then (setI s22 (-1) ((gI s22 (-1)).1, ((a23 : Int) + 1), side_26)) else (s22 ++ [((a23 : Int), ((a23 : Int) + 1), side_26)])))) []))) (pd_thaw 2 rfl) (by subst_vars; first | rfl | (simp only [m_runs, if_true, if_false, Bool.false_eq_true, ↓reduceIte]; done) | (simp only [m_runs, if_true, if_false, Bool.false_eq_true, ↓reduceIte]; rfl)))
theorem c_runs (Y : Py K mg) : Cal P w K mg base 4 "runs" (spD K S_runs) [] := by
  obtain ⟨fd, F⟩ := Y.d_runs
  exact ⟨_, fd, _, [], f_runs Y F, Y.g_runs, F.kp, F.bindsN (ps := [("readings" : Str), ("middle" : Str)]) fun _ _ _ _ _ _ us hl => match us, hl with | [_, _], _ => rfl, .nil⟩
theorem runs_len (r : List Int) (m : Int) : (m_runs r m).length ≤ (m_checked_readings r).length := by
  unfold m_runs
  dsimp only
  generalize m_checked_readings r = q
  have key : ∀ (xs : List Nat) (f : List (Int × Int × Int)) (st : List (Int × Int × Int) → Nat → List (Int × Int × Int)), (∀ a b, (st a b).length ≤ a.length + 1) → (xs.foldl st f).length ≤ f.length + xs.length := by
    intro xs
    induction xs with
    | nil => intro f st _; exact Nat.le_refl _
    | cons x xs ih =>
      intro f st h
      rw [List.foldl_cons]
      refine Nat.le_trans (ih _ _ h) ?_
      have := h f x
      simp; omega
  refine Nat.le_trans (key _ _ _ ?_) (by simp)
  intro a b
  have : ∀ (c : Bool) (p : Int) (v1 v2 : Int × Int × Int), (if c = true then setI a p v1 else a ++ [v2]).length ≤ a.length + 1 := fun c p v1 v2 => by
    split
    · rw [setI_len]; omega
    · simp
  exact this _ _ _ _

def m_longest_run (readings_ : (List Int)) (middle_ : Int) : Int :=
  (lmax ([0] ++ (((m_runs readings_ middle_).filter (fun (a29 : (Int × Int × Int)) => (!(decide (a29.2.2 = 0))))).map (fun (a29 : (Int × Int × Int)) => (a29.2.1 - a29.1)))))
def S_longest_run (ds : List PyData) (r : Res) : Prop := ∃ (readings_ : (List Int)) (middle_ : Int), ds = [((dL PyData.int) readings_), (PyData.int middle_)] ∧ ((∀ x ∈ readings_, -1000000 ≤ x ∧ x ≤ 1000000) ∧ readings_.length ≤ 400) ∧ r = .ret (PyData.int (m_longest_run readings_ middle_))
theorem f_longest_run (Y : Py K mg) {fd : FuncData} (F : FunD K "longest_run" "longest_run" (defArgs s_longest_run) (defBody s_longest_run) (defScope s_longest_run) [] [] (He.ga K "longest_run") fd) : FnOk P w K mg base (L2.CX P w) 5 (He.ga K "longest_run") fd [("readings" : Str), ("middle" : Str)] (spD K S_longest_run) := by
  refine fn_DD F sc_longest_run (fun ds r h => by obtain ⟨_, _, rfl, _⟩ := h; rfl) (by decide) (fun cdv A outer s H E hr ds r h => ?_)
  obtain ⟨readings_, middle_, rfl, pre, rfl⟩ := h
  refine bd_env (ρ' := [.d ((dL PyData.int) readings_), .d (PyData.int middle_), .un, .un, .un]) rfl ?_
  exact bd_one (sd_ret (x := (PyData.int (lmax ([0] ++ (((m_runs readings_ middle_).filter (fun (a29 : (Int × Int × Int)) => (!(decide (a29.2.2 = 0))))).map (fun (a29 : (Int × Int × Int)) => (a29.2.1 - a29.1))))))) (pd_maxD (ns := ([0] ++ (((m_runs readings_ middle_).filter (fun (a29 : (Int × Int × Int)) => (!(decide (a29.2.2 = 0))))).map (fun (a29 : (Int × Int × Int)) => (a29.2.1 - a29.1))))) rfl Y.z_max (/- side 3 -/ by simp) (pd_n (pn_catM (f := PyData.int) (ns := [0]) (ms := (((m_runs readings_ middle_).filter (fun (a29 : (Int × Int × Int)) => (!(decide (a29.2.2 = 0))))).map (fun (a29 : (Int × Int × Int)) => (a29.2.1 - a29.1)))) (pq_d (pd_n (pn_lst (ad_cons pd_int ad_nil)))) srcN (pq_d (pd_n (pn_lc (lcM (m_runs readings_ middle_) (dT3 PyData.int PyData.int PyData.int) PyData.int (fun (a29 : (Int × Int × Int)) => (!(decide (a29.2.2 = 0)))) (fun (a29 : (Int × Int × Int)) => (a29.2.1 - a29.1)) (blkOk_by (own := [("begin", 2), ("end", 3), ("side", 4)]) (show blkC n_longest_run (defScope s_longest_run) _ _ = true by decide +kernel)) (id_listD (f := (dT3 PyData.int PyData.int PyData.int)) (ns := (m_runs readings_ middle_)) (pd_call (c_runs Y) hr .nil (ad_cons (pd_var 0 rfl) (ad_cons (pd_var 1 rfl) ad_nil)) ⟨readings_, middle_, rfl, (/- side 0 -/ by exact pre), rfl⟩)) (/- side 1 -/ by have := runs_len readings_ middle_; rw [cr_len _ pre.2] at this; omega) (by intro _ h; cases h) (by trivial) (fun a29 ha => ⟨_, _, (fun Z hZ => by obtain ⟨s1, H1, C1, cl1, fp1, rfl⟩ := hZ; exact (gv_tup rfl (gsv_cons (gv_name 2 (by decide) sc_longest_run.nd) (gsv_cons (gv_name 3 (by decide) sc_longest_run.nd) (gsv_cons (gv_name 4 (by decide) sc_longest_run.nd) gsv_nil))))), (fun Z hZ => by obtain ⟨s1, H1, C1, cl1, fp1, rfl⟩ := hZ; exact (tsd_one (td_neI (pd_var 4 rfl) pd_int))), (fun Z hZ hw => by obtain ⟨s1, H1, C1, cl1, fp1, rfl⟩ := hZ; exact (pd_sub (pd_var 3 rfl) (pd_var 2 rfl))), (by repeat (first | exact Le.nil | apply Le.eq | apply Le.un)), (by repeat (first | exact Le.nil | apply Le.eq | apply Le.un))⟩)) sc_longest_run.nd))) srcN (/- side 2 -/ by have := runs_len readings_ middle_; rw [cr_len _ pre.2] at this; have := List.length_filter_le (fun a => (!(decide (a.2.2 = 0)))) (m_runs readings_ middle_); simp; omega)))) (by subst_vars; first | rfl | (simp only [m_longest_run, if_true, if_false, Bool.false_eq_true, ↓reduceIte]; done) | (simp only [m_longest_run, if_true, if_false, Bool.false_eq_true, ↓reduceIte]; rfl)))
theorem c_longest_run (Y : Py K mg) : Cal P w K mg base 5 "longest_run" (spD K S_longest_run) [] := by
  obtain ⟨fd, F⟩ := Y.d_longest_run
  exact ⟨_, fd, _, [], f_longest_run Y F, Y.g_longest_run, F.kp, F.bindsN (ps := [("readings" : Str), ("middle" : Str)]) fun _ _ _ _ _ _ us hl => match us, hl with | [_, _], _ => rfl, .nil⟩
def m__law_sums (readings_ : (List Int)) (middle_ : Int) (slack_ : Int) (sign_ : Int) : (List Int) :=
  (readings_.foldl (fun (s30 : Int × (List Int)) (a31 : Int) => (let total_34 : Int := ((s30.1 + (sign_ * (a31 - middle_))) - slack_); ((if (decide (total_34 < 0)) = true then 0 else total_34), (s30.2 ++ [(if (decide (total_34 < 0)) = true then 0 else total_34)])))) (0, [])).2
def S__law_sums (ds : List PyData) (r : Res) : Prop := ∃ (readings_ : (List Int)) (middle_ : Int) (slack_ : Int) (sign_ : Int), ds = [((dL PyData.int) readings_), (PyData.int middle_), (PyData.int slack_), (PyData.int sign_)] ∧ ((sign_ = 1 ∨ sign_ = -1) ∧ readings_.length ≤ 400) ∧ r = .ret ((dL PyData.int) (m__law_sums readings_ middle_ slack_ sign_))
theorem f__law_sums (Y : Py K mg) {fd : FuncData} (F : FunD K "_law_sums" "_law_sums" (defArgs s__law_sums) (defBody s__law_sums) (defScope s__law_sums) [] [] (He.ga K "_law_sums") fd) : FnOk P w K mg base (L2.CX P w) 1 (He.ga K "_law_sums") fd [("readings" : Str), ("middle" : Str), ("slack" : Str), ("sign" : Str)] (spD K S__law_sums) := by
  refine fn_DD F sc__law_sums (fun ds r h => by obtain ⟨_, _, _, _, rfl, _⟩ := h; rfl) (by decide) (fun cdv A outer s H E hr ds r h => ?_)
  obtain ⟨readings_, middle_, slack_, sign_, rfl, pre, rfl⟩ := h
  refine bd_env (ρ' := [.d ((dL PyData.int) readings_), .d (PyData.int middle_), .d (PyData.int slack_), .d (PyData.int sign_), .un, .un, .un]) rfl ?_
  refine bd_seq (sd_setN 4 (pn_lst ad_nil) rfl sc__law_sums.nd) ?_
  refine bd_env (ρ' := [.d ((dL PyData.int) readings_), .d (PyData.int middle_), .d (PyData.int slack_), .d (PyData.int sign_), .ol ([].map PyData.int), .un, .un]) rfl ?_
  refine bd_seq (sd_set 5 pd_int rfl sc__law_sums.nd) ?_
  refine bd_env (ρ' := [.d ((dL PyData.int) readings_), .d (PyData.int middle_), .d (PyData.int slack_), .d (PyData.int sign_), .ol ([].map PyData.int), .d (PyData.int 0), .un]) rfl ?_
  refine bd_cut (fun r => ∃ s30 : Int × (List Int), s30 = readings_.foldl (fun (s30 : Int × (List Int)) (a31 : Int) => (let total_34 : Int := ((s30.1 + (sign_ * (a31 - middle_))) - slack_); ((if (decide (total_34 < 0)) = true then 0 else total_34), (s30.2 ++ [(if (decide (total_34 < 0)) = true then 0 else total_34)])))) (0, []) ∧ Le [.d ((dL PyData.int) readings_), .d (PyData.int middle_), .d (PyData.int slack_), .d (PyData.int sign_), .ol ((s30.2).map PyData.int), .d (PyData.int (s30.1)), .un] r ∧ (fun (i32 : Nat) (s30 : Int × (List Int)) => s30.2.length = i32) readings_.length s30) (sd_forF readings_ PyData.int (fun s30 : Int × (List Int) => [.d ((dL PyData.int) readings_), .d (PyData.int middle_), .d (PyData.int slack_), .d (PyData.int sign_), .ol ((s30.2).map PyData.int), .d (PyData.int (s30.1)), .un]) (fun (s30 : Int × (List Int)) (a31 : Int) => (let total_34 : Int := ((s30.1 + (sign_ * (a31 - middle_))) - slack_); ((if (decide (total_34 < 0)) = true then 0 else total_34), (s30.2 ++ [(if (decide (total_34 < 0)) = true then 0 else total_34)])))) (0, []) (fun (i32 : Nat) (s30 : Int × (List Int)) => s30.2.length = i32) (passes_of rfl) rfl (id_listD (f := PyData.int) (ns := readings_) (pd_var 0 rfl)) (by repeat (first | exact Le.nil | apply Le.eq | apply Le.un)) (by first | trivial | omega | assumption | simp) (fun _ => trivial) (fun i32 s30 a31 ha hs36 pv => ⟨_, (gd_name 6 sc__law_sums.nd), ?_⟩) (fun s30 hs36 pv => ⟨_, hs36, Le.refl _, pv⟩)) ?_
  · try dsimp only at pv
    have hi : i32 < readings_.length := by
      by_cases z : i32 < readings_.length
      · exact z
      · rw [List.getElem?_eq_none (by omega)] at ha; cases ha
    refine bd_env (ρ' := [.d ((dL PyData.int) readings_), .d (PyData.int middle_), .d (PyData.int slack_), .d (PyData.int sign_), .ol ((s30.2).map PyData.int), .d (PyData.int (s30.1)), .d (PyData.int a31)]) rfl ?_
    refine bd_seq (sd_set 5 (pd_sub (pd_add (pd_var 5 rfl) (pd_mul (/- side 0 -/ by first | exact .inl (by omega) | exact .inr (by omega)) (pd_var 3 rfl) (pd_sub (pd_var 6 rfl) (pd_var 1 rfl)))) (pd_var 2 rfl)) rfl sc__law_sums.nd) ?_
    refine bd_env (ρ' := [.d ((dL PyData.int) readings_), .d (PyData.int middle_), .d (PyData.int slack_), .d (PyData.int sign_), .ol ((s30.2).map PyData.int), .d (PyData.int ((s30.1 + (sign_ * (a31 - middle_))) - slack_)), .d (PyData.int a31)]) rfl ?_
    generalize htotal_34 : (((s30.1 + (sign_ * (a31 - middle_))) - slack_) : Int) = total_34
    -- hk35: if total < 0
    refine bd_ite (k := (decide (total_34 < 0))) [.d ((dL PyData.int) readings_), .d (PyData.int middle_), .d (PyData.int slack_), .d (PyData.int sign_), .ol ((s30.2).map PyData.int), .d (PyData.int (if (decide (total_34 < 0)) = true then 0 else total_34)), .d (PyData.int a31)] (td_lt (pd_var 5 rfl) pd_int) (fun hk35 => ?_) (fun hk35 => ?_) ?_
    · skip
      have hk35f := hk35; try simp only [decide_eq_true_eq, decide_eq_false_iff_not, Bool.and_eq_true, Bool.or_eq_true, Bool.not_eq_true', Bool.not_eq_false', Bool.and_eq_false_iff, Bool.or_eq_false_iff, Bool.not_true, Bool.not_false, List.isEmpty_iff] at hk35f
      refine bd_seq (sd_set 5 pd_int rfl sc__law_sums.nd) ?_
      refine bd_env (ρ' := [.d ((dL PyData.int) readings_), .d (PyData.int middle_), .d (PyData.int slack_), .d (PyData.int sign_), .ol ((s30.2).map PyData.int), .d (PyData.int 0), .d (PyData.int a31)]) rfl ?_
      exact bd_nil (by subst_vars; (try simp only [hk35, if_true, if_false, Bool.false_eq_true, ↓reduceIte]); repeat (first | exact Le.nil | apply Le.eq | apply Le.un))
    · skip
      have hk35f := hk35; try simp only [decide_eq_true_eq, decide_eq_false_iff_not, Bool.and_eq_true, Bool.or_eq_true, Bool.not_eq_true', Bool.not_eq_false', Bool.and_eq_false_iff, Bool.or_eq_false_iff, Bool.not_true, Bool.not_false, List.isEmpty_iff] at hk35f
      exact bd_nil (by subst_vars; (try simp only [hk35, if_true, if_false, Bool.false_eq_true, ↓reduceIte]); repeat (first | exact Le.nil | apply Le.eq | apply Le.un))
    refine bd_seq (sd_appendM (f := PyData.int) (ns := (s30.2)) (v := (if (decide (total_34 < 0)) = true then 0 else total_34)) 4 rfl (pd_var 5 rfl) rfl (/- side 1 -/ by first | assumption | omega) rfl) ?_
    refine bd_env (ρ' := [.d ((dL PyData.int) readings_), .d (PyData.int middle_), .d (PyData.int slack_), .d (PyData.int sign_), .ol ((s30.2 ++ [(if (decide (total_34 < 0)) = true then 0 else total_34)]).map PyData.int), .d (PyData.int (if (decide (total_34 < 0)) = true then 0 else total_34)), .d (PyData.int a31)]) rfl ?_
    refine bd_nil ⟨(by subst_vars; (try simp only [if_true, if_false, Bool.false_eq_true, ↓reduceIte]); repeat (first | exact Le.nil | apply Le.eq | apply Le.un)), (by simp [pv])⟩
  rintro r ⟨s30, hs36, hle, pv⟩
  refine bd_le hle ?_
  clear hle
  try dsimp only at pv
  subst hs36
  exact bd_one (sd_ret (x := ((dL PyData.int) ((readings_.foldl (fun (s30 : Int × (List Int)) (a31 : Int) => (let total_34 : Int := ((s30.1 + (sign_ * (a31 - middle_))) - slack_); ((if (decide (total_34 < 0)) = true then 0 else total_34), (s30.2 ++ [(if (decide (total_34 < 0)) = true then 0 else total_34)])))) (0, [])).2))) (pd_thaw 4 rfl) (by subst_vars; first | rfl | (simp only [m__law_sums, if_true, if_false, Bool.false_eq_true, ↓reduceIte]; done) | (simp only [m__law_sums, if_true, if_false, Bool.false_eq_true, ↓reduceIte]; rfl)))
theorem c__law_sums (Y : Py K mg) : Cal P w K mg base 1 "_law_sums" (spD K S__law_sums) [] := by
  obtain ⟨fd, F⟩ := Y.d__law_sums
  exact ⟨_, fd, _, [], f__law_sums Y F, Y.g__law_sums, F.kp, F.bindsN (ps := [("readings" : Str), ("middle" : Str), ("slack" : Str), ("sign" : Str)]) fun _ _ _ _ _ _ us hl => match us, hl with | [_, _, _, _], _ => rfl, .nil⟩
theorem lsums_len (r : List Int) (m s g : Int) : (m__law_sums r m s g).length = r.length := by
  unfold m__law_sums
  have key : ∀ (r : List Int) (t : Int) (f : List Int) (st : Int × List Int → Int → Int × List Int), (∀ a b, (st a b).2.length = a.2.length + 1) → (r.foldl st (t, f)).2.length = f.length + r.length := by
    intro r
    induction r with
    | nil => intro t f st _; rfl
    | cons x r ih =>
      intro t f st h
      rw [List.foldl_cons]
      have := h (t, f) x
      rw [show st (t, f) x = ((st (t, f) x).1, (st (t, f) x).2) from rfl, ih _ _ _ h, this]
      simp; omega
  rw [key]
  · simp
  · intro a b; simp

def m__law_alarm (readings_ : (List Int)) (middle_ : Int) (slack_ : Int) (limit_ : Int) : (Option Int) :=
  (let high_37 : (List Int) := (m__law_sums readings_ middle_ slack_ 1); (let low_38 : (List Int) := (m__law_sums readings_ middle_ slack_ (-1)); (let found_40 : (List Int) := (((List.range (readings_.length)).filter (fun (a39 : Nat) => ((decide (limit_ < (gI high_37 (a39 : Int)))) || (decide (limit_ < (gI low_38 (a39 : Int))))))).map (fun (a39 : Nat) => (a39 : Int))); (if (decide (0 < (found_40.length : Int))) = true then (some (gI found_40 0)) else none))))
def S__law_alarm (ds : List PyData) (r : Res) : Prop := ∃ (readings_ : (List Int)) (middle_ : Int) (slack_ : Int) (limit_ : Int), ds = [((dL PyData.int) readings_), (PyData.int middle_), (PyData.int slack_), (PyData.int limit_)] ∧ (readings_.length ≤ 400) ∧ r = .ret ((dO PyData.int) (m__law_alarm readings_ middle_ slack_ limit_))
theorem f__law_alarm (Y : Py K mg) {fd : FuncData} (F : FunD K "_law_alarm" "_law_alarm" (defArgs s__law_alarm) (defBody s__law_alarm) (defScope s__law_alarm) [] [] (He.ga K "_law_alarm") fd) : FnOk P w K mg base (L2.CX P w) 2 (He.ga K "_law_alarm") fd [("readings" : Str), ("middle" : Str), ("slack" : Str), ("limit" : Str)] (spD K S__law_alarm) := by
  refine fn_DD F sc__law_alarm (fun ds r h => by obtain ⟨_, _, _, _, rfl, _⟩ := h; rfl) (by decide) (fun cdv A outer s H E hr ds r h => ?_)
  obtain ⟨readings_, middle_, slack_, limit_, rfl, pre, rfl⟩ := h
  refine bd_env (ρ' := [.d ((dL PyData.int) readings_), .d (PyData.int middle_), .d (PyData.int slack_), .d (PyData.int limit_), .un, .un, .un, .un]) rfl ?_
  refine bd_seq (sd_set 4 (pd_call (c__law_sums Y) hr .nil (ad_cons (pd_var 0 rfl) (ad_cons (pd_var 1 rfl) (ad_cons (pd_var 2 rfl) (ad_cons pd_int ad_nil)))) ⟨readings_, middle_, slack_, 1, rfl, (/- side 0 -/ by exact ⟨.inl rfl, pre⟩), rfl⟩) rfl sc__law_alarm.nd) ?_
  refine bd_env (ρ' := [.d ((dL PyData.int) readings_), .d (PyData.int middle_), .d (PyData.int slack_), .d (PyData.int limit_), .d ((dL PyData.int) (m__law_sums readings_ middle_ slack_ 1)), .un, .un, .un]) rfl ?_
  generalize hhigh_37 : ((m__law_sums readings_ middle_ slack_ 1) : (List Int)) = high_37
  have lh : high_37.length = readings_.length := by rw [← hhigh_37]; exact lsums_len _ _ _ _
  refine bd_seq (sd_set 5 (pd_call (c__law_sums Y) hr .nil (ad_cons (pd_var 0 rfl) (ad_cons (pd_var 1 rfl) (ad_cons (pd_var 2 rfl) (ad_cons (pd_neg pd_int) ad_nil)))) ⟨readings_, middle_, slack_, (-1), rfl, (/- side 1 -/ by exact ⟨.inr rfl, pre⟩), rfl⟩) rfl sc__law_alarm.nd) ?_
  refine bd_env (ρ' := [.d ((dL PyData.int) readings_), .d (PyData.int middle_), .d (PyData.int slack_), .d (PyData.int limit_), .d ((dL PyData.int) high_37), .d ((dL PyData.int) (m__law_sums readings_ middle_ slack_ (-1))), .un, .un]) rfl ?_
  generalize hlow_38 : ((m__law_sums readings_ middle_ slack_ (-1)) : (List Int)) = low_38
  have ll : low_38.length = readings_.length := by rw [← hlow_38]; exact lsums_len _ _ _ _
  refine bd_seq (sd_setLcD 6 (lcM (List.range (readings_.length)) (fun i : Nat => PyData.int (i : Int)) PyData.int (fun (a39 : Nat) => ((decide (limit_ < (gI high_37 (a39 : Int)))) || (decide (limit_ < (gI low_38 (a39 : Int)))))) (fun (a39 : Nat) => (a39 : Int)) (blkOk_by (own := [("k", 7)]) (show blkC n__law_alarm (defScope s__law_alarm) _ _ = true by decide +kernel)) (id_range0 Y.z_range (pd_lenD (f := PyData.int) (ns := readings_) Y.z_len (pd_var 0 rfl)) (/- side 2 -/ by omega)) (/- side 5 -/ by simp; omega) (by intro _ h; cases h) (by trivial) (fun a39 ha => ⟨_, _, (fun Z hZ => by obtain ⟨s1, H1, C1, cl1, fp1, rfl⟩ := hZ; exact (gv_name 7 (by decide) sc__law_alarm.nd)), (fun Z hZ => by obtain ⟨s1, H1, C1, cl1, fp1, rfl⟩ := hZ; exact (tsd_one (td_w (wd_or (td_gt (pd_gixD (f := PyData.int) (ns := high_37) (i := (a39 : Int)) (/- side 3 -/ by have hi := List.mem_range.mp ha; omega) (pd_var 4 rfl) (pd_var 7 rfl)) (pd_var 3 rfl)) (fun hw => (wd_or1 (td_gt (pd_gixD (f := PyData.int) (ns := low_38) (i := (a39 : Int)) (/- side 4 -/ by have hi := List.mem_range.mp ha; omega) (pd_var 5 rfl) (pd_var 7 rfl)) (pd_var 3 rfl)))))))), (fun Z hZ hw => by obtain ⟨s1, H1, C1, cl1, fp1, rfl⟩ := hZ; exact (pd_var 7 rfl)), (by repeat (first | exact Le.nil | apply Le.eq | apply Le.un)), (by repeat (first | exact Le.nil | apply Le.eq | apply Le.un))⟩)) rfl sc__law_alarm.nd) ?_
  refine bd_env (ρ' := [.d ((dL PyData.int) readings_), .d (PyData.int middle_), .d (PyData.int slack_), .d (PyData.int limit_), .d ((dL PyData.int) high_37), .d ((dL PyData.int) low_38), .d ((dL PyData.int) (((List.range (readings_.length)).filter (fun (a39 : Nat) => ((decide (limit_ < (gI high_37 (a39 : Int)))) || (decide (limit_ < (gI low_38 (a39 : Int))))))).map (fun (a39 : Nat) => (a39 : Int)))), .un]) rfl ?_
  generalize hfound_40 : ((((List.range (readings_.length)).filter (fun (a39 : Nat) => ((decide (limit_ < (gI high_37 (a39 : Int)))) || (decide (limit_ < (gI low_38 (a39 : Int))))))).map (fun (a39 : Nat) => (a39 : Int))) : (List Int)) = found_40
  exact bd_one (sd_ret (x := ((dO PyData.int) (if (decide (0 < (found_40.length : Int))) = true then (some (gI found_40 0)) else none))) (pd_ift (dO PyData.int) (some (gI found_40 0)) none (td_gt (pd_lenD (f := PyData.int) (ns := found_40) Y.z_len (pd_var 6 rfl)) pd_int) (fun hc => (pd_gixD (f := PyData.int) (ns := found_40) (i := 0) (/- side 6 -/ by have := of_decide_eq_true hc; omega) (pd_var 6 rfl) pd_int)) (fun hc => pd_non)) (by subst_vars; first | rfl | (simp only [m__law_alarm, if_true, if_false, Bool.false_eq_true, ↓reduceIte]; done) | (simp only [m__law_alarm, if_true, if_false, Bool.false_eq_true, ↓reduceIte]; rfl)))
theorem c__law_alarm (Y : Py K mg) : Cal P w K mg base 2 "_law_alarm" (spD K S__law_alarm) [] := by
  obtain ⟨fd, F⟩ := Y.d__law_alarm
  exact ⟨_, fd, _, [], f__law_alarm Y F, Y.g__law_alarm, F.kp, F.bindsN (ps := [("readings" : Str), ("middle" : Str), ("slack" : Str), ("limit" : Str)]) fun _ _ _ _ _ _ us hl => match us, hl with | [_, _, _, _], _ => rfl, .nil⟩
end
end GP
namespace GP
open PySem PySem.Spec PyProof.Rows L2 G
section
variable {P : Program} {w : World} {K : PySem.W.Frag} {mg : Str → Option Value} {base : Heap}


/-- the least x from lo on with p x, by halves -/
def bs (p : Int → Bool) : Nat → Int → Int → Int
  | 0, lo, _ => lo
  | n + 1, lo, hi => if lo < hi then (if p ((lo + hi) / 2) = true then bs p n lo ((lo + hi) / 2) else bs p n ((lo + hi) / 2 + 1) hi) else lo
def m_least_slack (r : List Int) (m lim : Int) : Option Int := if decide (lim < m_least_limit r m 1000000) = true then none else some (bs (fun h => decide (m_least_limit r m h ≤ lim)) 1000000 0 1000000)
def S_least_slack (ds : List PyData) (r : Res) : Prop := ∃ (readings_ : List Int) (middle_ limit_ : Int), ds = [dL PyData.int readings_, .int middle_, .int limit_] ∧ (((∀ x ∈ readings_, -1000000 ≤ x ∧ x ≤ 1000000) ∧ readings_.length ≤ 400) ∧ -1000000 ≤ middle_ ∧ middle_ ≤ 1000000) ∧ r = .ret (dO PyData.int (m_least_slack readings_ middle_ limit_))
theorem f_least_slack (Y : Py K mg) {fd : FuncData} (F : FunD K "least_slack" "least_slack" (defArgs s_least_slack) (defBody s_least_slack) (defScope s_least_slack) [] [] (He.ga K "least_slack") fd) : FnOk P w K mg base (L2.CX P w) 7 (He.ga K "least_slack") fd [("readings" : Str), ("middle" : Str), ("limit" : Str)] (spD K S_least_slack) := by
  refine fn_DD F sc_least_slack (fun ds r h => by obtain ⟨_, _, _, rfl, _⟩ := h; rfl) (by decide) (fun cdv A outer s H E hr ds r h => ?_)
  obtain ⟨readings_, middle_, limit_, rfl, ⟨pre, pm⟩, rfl⟩ := h
  refine bd_seq (sd_set 3 pd_int rfl sc_least_slack.nd) ?_
  refine bd_seq (sd_set 4 pd_int rfl sc_least_slack.nd) ?_
  refine bd_env (ρ' := [.d (dL PyData.int readings_), .d (PyData.int middle_), .d (PyData.int limit_), .d (PyData.int 0), .d (PyData.int 1000000), .un]) rfl ?_
  refine bd_guard (k := decide (limit_ < m_least_limit readings_ middle_ 1000000)) (td_gt (pd_call (c_least_limit Y) hr .nil (ad_cons (pd_var 0 rfl) (ad_cons (pd_var 1 rfl) (ad_cons (pd_var 4 rfl) ad_nil))) ⟨readings_, middle_, 1000000, rfl, ⟨pre, by omega⟩, rfl⟩) (pd_var 2 rfl)) (fun hk => ?_) (fun hk => ?_)
  · exact bd_one (sd_ret pd_non (by show PyData.none = dO PyData.int (m_least_slack readings_ middle_ limit_); rw [m_least_slack, if_pos hk]; rfl))
  generalize hp : (fun h => decide (m_least_limit readings_ middle_ h ≤ limit_)) = p
  have hR : m_least_slack readings_ middle_ limit_ = some (bs p 1000000 0 1000000) := by
    rw [m_least_slack, if_neg (by rw [hk]; exact Bool.false_ne_true), hp]
  rw [hR]
  refine bd_cut (fun r => ∃ s : Int × Int, (∃ n, s.2 - s.1 ≤ (n : Nat) ∧ bs p n s.1 s.2 = bs p 1000000 0 1000000) ∧ ¬ s.1 < s.2 ∧ Le [.d (dL PyData.int readings_), .d (PyData.int middle_), .d (PyData.int limit_), .d (PyData.int s.1), .d (PyData.int s.2), .un] r)
    (sd_while (fun s : Int × Int => [.d (dL PyData.int readings_), .d (PyData.int middle_), .d (PyData.int limit_), .d (PyData.int s.1), .d (PyData.int s.2), .un]) (fun s => (0 ≤ s.1 ∧ s.2 ≤ 1000000) ∧ ∃ n, s.2 - s.1 ≤ (n : Nat) ∧ bs p n s.1 s.2 = bs p 1000000 0 1000000) (fun s => (s.2 - s.1).toNat) (fun s => decide (s.1 < s.2)) (passes_of rfl) ⟨(0, 1000000), by repeat (first | exact Le.nil | apply Le.eq | apply Le.un), ⟨by decide, by decide⟩, 1000000, by decide, rfl⟩ (fun s _ => td_lt (pd_var 3 rfl) (pd_var 4 rfl)) (fun s ps hc => ?_) (fun s ps hc => ⟨s, ps.2, of_decide_eq_false hc, Le.refl _⟩)) ?_
  · have hc := of_decide_eq_true hc
    obtain ⟨⟨b1, b2⟩, n, hn, hb⟩ := ps
    obtain ⟨lo, hi⟩ := s
    dsimp only at *
    obtain ⟨n, rfl⟩ : ∃ n', n = n' + 1 := ⟨n - 1, by omega⟩
    refine bd_seq (sd_set 5 (pd_fdiv ⟨by decide, by decide⟩ (pd_add (pd_var 3 rfl) (pd_var 4 rfl)) pd_int) rfl sc_least_slack.nd) ?_
    refine bd_env (ρ' := [.d (dL PyData.int readings_), .d (PyData.int middle_), .d (PyData.int limit_), .d (PyData.int lo), .d (PyData.int hi), .d (PyData.int ((lo + hi) / 2))]) rfl ?_
    have hb' : bs p (n + 1) lo hi = if p ((lo + hi) / 2) = true then bs p n lo ((lo + hi) / 2) else bs p n ((lo + hi) / 2 + 1) hi := by
      show (if lo < hi then _ else _) = _
      rw [if_pos hc]
    have hh : lo ≤ (lo + hi) / 2 ∧ (lo + hi) / 2 < hi := by omega
    generalize (lo + hi) / 2 = half at *
    refine bd_one (sd_if (k := decide (m_least_limit readings_ middle_ half ≤ limit_)) (td_le (pd_call (c_least_limit Y) hr .nil (ad_cons (pd_var 0 rfl) (ad_cons (pd_var 1 rfl) (ad_cons (pd_var 5 rfl) ad_nil))) ⟨readings_, middle_, half, rfl, ⟨pre, by omega⟩, rfl⟩) (pd_var 2 rfl)) (fun hk => ?_) (fun hk => ?_))
    · have hp2 : p half = true := by rw [← hp]; exact hk
      rw [if_pos hp2] at hb'
      refine bd_one (sd_set 4 (pd_var 5 rfl) ⟨_, ?_, (lo, half), rfl, ⟨⟨b1, by dsimp only; omega⟩, n, by dsimp only; omega, by rw [← hb, hb']⟩, by dsimp only; omega⟩ sc_least_slack.nd)
      repeat (first | exact Le.nil | apply Le.eq | apply Le.un)
    · have hp2 : p half = false := by rw [← hp]; exact hk
      rw [if_neg (by rw [hp2]; exact Bool.false_ne_true)] at hb'
      refine bd_one (sd_set 3 (pd_add (pd_var 5 rfl) pd_int) ⟨_, ?_, (half + 1, hi), rfl, ⟨⟨by dsimp only; omega, by dsimp only; omega⟩, n, by dsimp only; omega, by rw [← hb, hb']⟩, by dsimp only; omega⟩ sc_least_slack.nd)
      repeat (first | exact Le.nil | apply Le.eq | apply Le.un)
  · rintro r ⟨⟨lo, hi⟩, ⟨n, hn, hb⟩, hlt, hle⟩
    refine bd_le hle ?_
    refine bd_one (sd_ret (pd_var 3 rfl) ?_)
    show PyData.int lo = PyData.int (bs p 1000000 0 1000000)
    rw [← hb]
    cases n with
    | zero => rfl
    | succ n =>
      show _ = PyData.int (if lo < hi then _ else lo)
      rw [if_neg hlt]
theorem c_least_slack (Y : Py K mg) : Cal P w K mg base 7 "least_slack" (spD K S_least_slack) [] := by
  obtain ⟨fd, F⟩ := Y.d_least_slack
  exact ⟨_, fd, _, [], f_least_slack Y F, Y.g_least_slack, F.kp, F.bindsN (ps := [("readings" : Str), ("middle" : Str), ("limit" : Str)]) fun _ _ _ _ _ _ us hl => match us, hl with | [_, _, _], _ => rfl, .nil⟩


theorem foldlM_find {α R : Type} (c : α → Bool) (v : α → R) : ∀ xs : List α, xs.foldlM (fun (_ : Unit) a => (if c a = true then .error (v a) else .ok () : Except R Unit)) () = match xs.find? c with | some a => .error (v a) | none => .ok ()
  | [] => rfl
  | x :: xs => by
    rw [List.foldlM_cons, List.find?_cons]
    cases q : c x with
    | true => rfl
    | false =>
      show (xs.foldlM _ () : Except R Unit) = _
      exact foldlM_find c v xs
theorem fa_eq (r : List Int) (m s l : Int) : m_first_alarm r m s l = ((List.range (m_sums r m s).length).find? (fun a : Nat => decide (l < gI (m_sums r m s) (a : Int)) || decide (l < gI (m_low_sums r m s) (a : Int)))).map (fun a : Nat => (a : Int)) := by
  unfold m_first_alarm
  dsimp only
  have h := foldlM_find (R := Option Int) (fun a : Nat => decide (l < gI (m_sums r m s) (a : Int)) || decide (l < gI (m_low_sums r m s) (a : Int))) (fun a => some (a : Int)) (List.range (m_sums r m s).length)
  rw [h]
  cases (List.range (m_sums r m s).length).find? (fun a : Nat => decide (l < gI (m_sums r m s) (a : Int)) || decide (l < gI (m_low_sums r m s) (a : Int))) <;> rfl
theorem fa_range {r : List Int} {m s l p : Int} (hr : (∀ x ∈ r, -1000000 ≤ x ∧ x ≤ 1000000) ∧ r.length ≤ 400) (h : m_first_alarm r m s l = some p) : 0 ≤ p ∧ p < r.length := by
  rw [fa_eq] at h
  cases q : (List.range (m_sums r m s).length).find? (fun a : Nat => decide (l < gI (m_sums r m s) (a : Int)) || decide (l < gI (m_low_sums r m s) (a : Int))) with
  | none => rw [q] at h; cases h
  | some a =>
    rw [q] at h
    cases h
    have := List.mem_range.mp (List.mem_of_find?_eq_some q)
    rw [sums_len r m s hr] at this
    show (0 : Int) ≤ (a : Int) ∧ (a : Int) < (r.length : Int)
    omega
theorem cutG_zero {α : Type} (xs : List α) : cutG xs (some 0) none = xs := cutG_from xs 0 (Nat.zero_le _)
theorem cut_okR {r : List Int} {b : Int} (h0 : 0 ≤ b) (h1 : b ≤ r.length) (h : (∀ x ∈ r, -1000000 ≤ x ∧ x ≤ 1000000) ∧ r.length ≤ 400) : ((∀ x ∈ cutG r (some b) none, -1000000 ≤ x ∧ x ≤ 1000000) ∧ (cutG r (some b) none).length ≤ 400) ∧ ((cutG r (some b) none).length : Int) = r.length - b := by
  obtain ⟨n, rfl⟩ : ∃ n : Nat, b = n := ⟨b.toNat, by omega⟩
  rw [cutG_from r n (by omega)]
  refine ⟨⟨fun x hx => h.1 x (List.mem_of_mem_drop hx), ?_⟩, ?_⟩ <;> rw [List.length_drop] <;> omega
/-- the alarms, both sums begun anew behind each -/
def rsF (fa : List Int → Option Int) (rows : List Int) : Nat → Int → List Int
  | 0, _ => []
  | n + 1, b => match fa (cutG rows (some b) none) with
    | none => []
    | some p => (b + p) :: rsF fa rows n (b + p + 1)
def m_resets (r : List Int) (m s l : Int) : List Int := rsF (fun q => m_first_alarm q m s l) (m_checked_readings r) 401 0
def S_resets (ds : List PyData) (r : Res) : Prop := ∃ (readings_ : List Int) (middle_ slack_ limit_ : Int), ds = [dL PyData.int readings_, .int middle_, .int slack_, .int limit_] ∧ ((((∀ x ∈ readings_, -1000000 ≤ x ∧ x ≤ 1000000) ∧ readings_.length ≤ 400) ∧ -1000000 ≤ middle_ ∧ middle_ ≤ 1000000 ∧ 0 ≤ slack_ ∧ slack_ ≤ 1000000) ∧ 0 ≤ limit_ ∧ limit_ ≤ 1000000000) ∧ r = .ret (dL PyData.int (m_resets readings_ middle_ slack_ limit_))
theorem f_resets (Y : Py K mg) {fd : FuncData} (F : FunD K "resets" "resets" (defArgs s_resets) (defBody s_resets) (defScope s_resets) [] [] (He.ga K "resets") fd) : FnOk P w K mg base (L2.CX P w) 7 (He.ga K "resets") fd [("readings" : Str), ("middle" : Str), ("slack" : Str), ("limit" : Str)] (spD K S_resets) := by
  refine fn_DD F sc_resets (fun ds r h => by obtain ⟨_, _, _, _, rfl, _⟩ := h; rfl) (by decide) (fun cdv A outer s H E hr ds r h => ?_)
  obtain ⟨readings_, middle_, slack_, limit_, rfl, ⟨⟨pre, pm⟩, pl⟩, rfl⟩ := h
  refine bd_seq (sd_expr (pd_call (c_checked_number_3 Y) hr .nil (ad_cons (pd_var 3 rfl) (ad_cons pd_int (ad_cons (pd_gint (Y.i_FAR).choose_spec) ad_nil))) ⟨limit_, 0, 1000000000, rfl, by omega, rfl⟩) rfl) ?_
  refine bd_seq (sd_set 4 (pd_call (c_checked_readings Y) hr .nil (ad_cons (pd_var 0 rfl) ad_nil) ⟨readings_, rfl, pre, rfl⟩) rfl sc_resets.nd) ?_
  unfold m_resets
  rw [cr_eq _ pre.2]
  refine bd_seq (sd_setN 5 (pn_lst ad_nil) rfl sc_resets.nd) ?_
  refine bd_seq (sd_set 6 pd_int rfl sc_resets.nd) ?_
  refine bd_seq (sd_set 7 (pd_call (c_first_alarm Y) hr .nil (ad_cons (pd_var 4 rfl) (ad_cons (pd_var 1 rfl) (ad_cons (pd_var 2 rfl) (ad_cons (pd_var 3 rfl) ad_nil)))) ⟨readings_, middle_, slack_, limit_, rfl, ⟨⟨pre, pm⟩, pl⟩, rfl⟩) rfl sc_resets.nd) ?_
  refine bd_env (ρ' := [.d (dL PyData.int readings_), .d (PyData.int middle_), .d (PyData.int slack_), .d (PyData.int limit_), .d (dL PyData.int readings_), .ol (([] : List Int).map PyData.int), .d (PyData.int 0), .d (dO PyData.int (m_first_alarm readings_ middle_ slack_ limit_))]) rfl ?_
  generalize hfa : (fun q => m_first_alarm q middle_ slack_ limit_) = fa
  have fr : ∀ b : Int, 0 ≤ b → b ≤ readings_.length → ∀ p, fa (cutG readings_ (some b) none) = some p → 0 ≤ p ∧ b + p + 1 ≤ readings_.length := fun b h0 h1 p h => by
    rw [← hfa] at h
    have c := cut_okR h0 h1 pre
    have := fa_range c.1 h
    omega
  refine bd_cut (fun r => ∃ s : List Int × Int × Option Int, s.1 = rsF fa readings_ 401 0 ∧ Le [.d (dL PyData.int readings_), .d (PyData.int middle_), .d (PyData.int slack_), .d (PyData.int limit_), .d (dL PyData.int readings_), .ol (s.1.map PyData.int), .d (PyData.int s.2.1), .d (dO PyData.int s.2.2)] r)
    (sd_while (fun s : List Int × Int × Option Int => [.d (dL PyData.int readings_), .d (PyData.int middle_), .d (PyData.int slack_), .d (PyData.int limit_), .d (dL PyData.int readings_), .ol (s.1.map PyData.int), .d (PyData.int s.2.1), .d (dO PyData.int s.2.2)])
      (fun s => (0 ≤ s.2.1 ∧ s.2.1 ≤ readings_.length ∧ s.1.length ≤ s.2.1) ∧ s.2.2 = fa (cutG readings_ (some s.2.1) none) ∧ ∃ n : Nat, readings_.length - s.2.1 < (n : Int) ∧ s.1 ++ rsF fa readings_ n s.2.1 = rsF fa readings_ 401 0) (fun s => (readings_.length - s.2.1).toNat) (fun s => !s.2.2.isNone) (passes_of rfl)
      ⟨([], 0, m_first_alarm readings_ middle_ slack_ limit_), by repeat (first | exact Le.nil | apply Le.eq | apply Le.un), ⟨by simp, by rw [cutG_zero, ← hfa], 401, by simp; omega, rfl⟩⟩ (fun s _ => td_cast (notN_dO _ (by intro _; rfl)) (td_notN (pd_var 7 rfl))) (fun s ps hc => ?_) (fun s ps hc => ⟨s, ?_, Le.refl _⟩)) ?_
  · obtain ⟨⟨b0, b1, b2⟩, hpl, n, hn, hb⟩ := ps
    obtain ⟨found, b, pp⟩ := s
    dsimp only at *
    cases pp with
    | none => cases hc
    | some p =>
      have q := fr b b0 b1 p hpl.symm
      obtain ⟨n, rfl⟩ : ∃ n', n = n' + 1 := ⟨n - 1, by omega⟩
      have hb' : rsF fa readings_ (n + 1) b = (b + p) :: rsF fa readings_ n (b + p + 1) := by
        show (match fa (cutG readings_ (some b) none) with | none => [] | some p => (b + p) :: rsF fa readings_ n (b + p + 1)) = _
        rw [← hpl]
      refine bd_env (ρ' := [.d (dL PyData.int readings_), .d (PyData.int middle_), .d (PyData.int slack_), .d (PyData.int limit_), .d (dL PyData.int readings_), .ol (found.map PyData.int), .d (PyData.int b), .d (PyData.int p)]) rfl ?_
      refine bd_seq (sd_appendM (f := PyData.int) (ns := found) (v := b + p) 5 rfl (pd_add (pd_var 6 rfl) (pd_var 7 rfl)) rfl (by omega) rfl) ?_
      refine bd_seq (sd_set 6 (pd_add (pd_add (pd_var 6 rfl) (pd_var 7 rfl)) pd_int) rfl sc_resets.nd) ?_
      have c := cut_okR (r := readings_) (b := b + p + 1) (by omega) (by omega) pre
      refine bd_one (sd_set 7 (pd_call (c_first_alarm Y) hr .nil (ad_cons (pd_n (pn_sliceD (f := PyData.int) (ns := readings_) (ol := some (b + p + 1)) (oh := none) (pd_var 4 rfl) (od_some (pd_var 6 rfl)) od_none)) (ad_cons (pd_var 1 rfl) (ad_cons (pd_var 2 rfl) (ad_cons (pd_var 3 rfl) ad_nil)))) ⟨_, middle_, slack_, limit_, rfl, ⟨⟨c.1, pm⟩, pl⟩, rfl⟩) ⟨_, ?_, (found ++ [b + p], b + p + 1, fa (cutG readings_ (some (b + p + 1)) none)), rfl, ⟨⟨by dsimp only; omega, by dsimp only; omega, by dsimp only; simp; omega⟩, rfl, n, by dsimp only; omega, by dsimp only; rw [← hb, hb']; simp⟩, by dsimp only; omega⟩ sc_resets.nd)
      subst hfa
      repeat (first | exact Le.nil | apply Le.eq | apply Le.un)
  · obtain ⟨⟨b0, b1, b2⟩, hpl, n, hn, hb⟩ := ps
    obtain ⟨found, b, pp⟩ := s
    dsimp only at *
    cases pp with
    | some p => cases hc
    | none =>
      rw [← hb]
      cases n with
      | zero => simp [rsF]
      | succ n =>
        have hb' : rsF fa readings_ (n + 1) b = [] := by
          show (match fa (cutG readings_ (some b) none) with | none => [] | some p => (b + p) :: rsF fa readings_ n (b + p + 1)) = _
          rw [← hpl]
        rw [hb', List.append_nil]
  · rintro r ⟨s, hs, hle⟩
    refine bd_le hle ?_
    exact bd_one (sd_ret (pd_thaw 5 rfl) (by show PyData.list _ = PyData.list _; rw [hs]))
theorem c_resets (Y : Py K mg) : Cal P w K mg base 7 "resets" (spD K S_resets) [] := by
  obtain ⟨fd, F⟩ := Y.d_resets
  exact ⟨_, fd, _, [], f_resets Y F, Y.g_resets, F.kp, F.bindsN (ps := [("readings" : Str), ("middle" : Str), ("slack" : Str), ("limit" : Str)]) fun _ _ _ _ _ _ us hl => match us, hl with | [_, _, _, _], _ => rfl, .nil⟩

end
end GP
namespace GP
open PySem PySem.Spec PyProof.Rows L2 G
section
variable {P : Program} {w : World} {K : PySem.W.Frag} {mg : Str → Option Value} {base : Heap}

/-- readings, their middle, how wide they lie -/
def readP (p : Pool) : (List Int × Int × Int) × Pool :=
  let a := drawP p 40
  let b := drawP a.2 3
  let w : Int := gI [3, 12, 1000] b.1
  let c := drawP b.2 9
  ((scanV (fun (q : Pool) (_ : Nat) => (drawP q (2 * w + 1)).2) (fun _ _ => true) (fun (q : Pool) (_ : Nat) => a.1 - 20 + (drawP q (2 * w + 1)).1 - w) c.2 (List.range c.1.toNat), a.1 - 20, w), (List.range c.1.toNat).foldl (fun (q : Pool) (_ : Nat) => (drawP q (2 * w + 1)).2) c.2)
theorem fold_a (n : Int) : ∀ (xs : List Nat) (q : Pool), 0 ≤ q.a → 0 ≤ (xs.foldl (fun (q : Pool) (_ : Nat) => (drawP q n).2) q).a
  | [], q, h => h
  | _ :: xs, q, h => fold_a n xs _ (draw_a q n h)
theorem scanV_mem {S α β : Type} (step : S → α → S) (keep : S → α → Bool) (val : S → α → β) (P : β → Prop) (h : ∀ s a, P (val s a)) : ∀ (xs : List α) (s : S), ∀ y ∈ scanV step keep val s xs, P y
  | [], _, y, hy => by cases hy
  | a :: xs, s, y, hy => by
    unfold scanV at hy
    split at hy
    · rcases List.mem_cons.mp hy with e | e
      · rw [e]; exact h s a
      · exact scanV_mem step keep val P h xs _ y e
    · exact scanV_mem step keep val P h xs _ y hy
theorem scanV_len {S α β : Type} (step : S → α → S) (keep : S → α → Bool) (val : S → α → β) : ∀ (xs : List α) (s : S), (scanV step keep val s xs).length ≤ xs.length
  | [], _ => Nat.le_refl _
  | a :: xs, s => by
    unfold scanV
    have := scanV_len step keep val xs (step s a)
    split <;> simp <;> omega
theorem wide3 {i : Int} (h : 0 ≤ i ∧ i < 3) : gI ([3, 12, 1000] : List Int) i = 3 ∨ gI ([3, 12, 1000] : List Int) i = 12 ∨ gI ([3, 12, 1000] : List Int) i = 1000 := by
  have : i = 0 ∨ i = 1 ∨ i = 2 := by omega
  rcases this with rfl | rfl | rfl
  · exact .inl rfl
  · exact .inr (.inl rfl)
  · exact .inr (.inr rfl)
theorem readP_ok (p : Pool) (h : 0 ≤ p.a) : ((∀ x ∈ (readP p).1.1, -1100 ≤ x ∧ x ≤ 1100) ∧ (readP p).1.1.length ≤ 8) ∧ (-20 ≤ (readP p).1.2.1 ∧ (readP p).1.2.1 ≤ 20) ∧ (3 ≤ (readP p).1.2.2 ∧ (readP p).1.2.2 ≤ 1000) ∧ 0 ≤ (readP p).2.a := by
  have h1 := draw_bd p (n := 40) (by decide)
  have h2 := draw_bd (drawP p 40).2 (n := 3) (by decide)
  have h3 := draw_bd (drawP (drawP p 40).2 3).2 (n := 9) (by decide)
  have hw := wide3 h2
  have ha := draw_a _ 9 (draw_a _ 3 (draw_a p 40 h))
  unfold readP
  dsimp only
  generalize drawP p 40 = a at *
  generalize drawP a.2 3 = b at *
  generalize drawP b.2 9 = c at *
  generalize gI ([3, 12, 1000] : List Int) b.1 = w at *
  refine ⟨⟨?_, ?_⟩, by omega, by omega, fold_a _ _ _ ha⟩
  · intro x hx
    refine scanV_mem _ _ _ (fun x => -1100 ≤ x ∧ x ≤ 1100) (fun q _ => ?_) _ _ x hx
    have := draw_bd q (n := 2 * w + 1) (by omega)
    omega
  · refine Nat.le_trans (scanV_len _ _ _ _ _) ?_
    rw [List.length_range]
    omega
def SRead (xs ds : List PyData) (y : PyData) (xs' : List PyData) : Prop := ∃ (p : Pool) (r : (List Int × Int × Int) × Pool), xs = pl p ∧ ds = [] ∧ 0 ≤ p.a ∧ r = readP p ∧ y = .list [dL PyData.int r.1.1, .int r.1.2.1, .int r.1.2.2] ∧ xs' = pl r.2
theorem c__law_readings (Y : Py K mg) : Cal P w K mg base 3 "_law_readings" (spO K SRead) [] := by
  obtain ⟨fd, F⟩ := Y.d__law_readings
  have bb := F.bindsN (ps := ["pool"]) fun _ _ _ _ _ _ us hl => match us, hl with | [_], _ => rfl
  refine ⟨_, fd, _, [], fn_OD F sc__law_readings (fun xs ds y xs' h => by obtain ⟨_, _, _, rfl, _⟩ := h; rfl) (by decide) (fun cdv A outer s H E hr l xs ds y xs' h => ?_), Y.g__law_readings, F.kp, bb, .nil⟩
  obtain ⟨p, r, rfl, rfl, a0, rfl, rfl, rfl⟩ := h
  have h1 := draw_bd p (n := 40) (by decide)
  have h2 := draw_bd (drawP p 40).2 (n := 3) (by decide)
  have h3 := draw_bd (drawP (drawP p 40).2 3).2 (n := 9) (by decide)
  have hw := wide3 h2
  have ha1 := draw_a p 40 a0
  have ha2 := draw_a _ 3 ha1
  have ha := draw_a _ 9 ha2
  refine bd_seq (sd_set 1 (pd_sub (pd_callO 0 (c__law_draw Y) hr .nil rfl (ad_cons pd_int ad_nil) rfl ⟨p, 40, _, rfl, rfl, ⟨by decide, by decide, a0⟩, rfl, rfl, rfl⟩) pd_int) rfl sc__law_readings.nd) ?_
  unfold readP
  dsimp only
  generalize drawP p 40 = a at *
  refine bd_env (ρ' := [.o (some l) (.l (pl a.2)), .d (PyData.int (a.1 - 20)), .un, .un]) rfl ?_
  refine bd_seq (sd_set 2 (pd_callO (y := PyData.int (gI [3, 12, 1000] (drawP a.2 3).1)) 0 (c__law_pick Y) hr .nil rfl (ad_cons (pd_n (pn_lst (ad_cons pd_int (ad_cons pd_int (ad_cons pd_int ad_nil))))) ad_nil) rfl ⟨a.2, _, _, rfl, rfl, ⟨by decide, by decide, ha1⟩, rfl, ?pk, rfl⟩) rfl sc__law_readings.nd) ?_
  case pk =>
    show ([PyData.int 3, PyData.int 12, PyData.int 1000] : List PyData)[(drawP a.2 3).1.toNat]? = _
    generalize (drawP a.2 3).1 = i at *
    have : i = 0 ∨ i = 1 ∨ i = 2 := by omega
    rcases this with rfl | rfl | rfl <;> rfl
  refine bd_env (ρ' := [.o (some l) (.l (pl (drawP a.2 3).2)), .d (PyData.int (a.1 - 20)), .d (PyData.int (gI [3, 12, 1000] (drawP a.2 3).1)), .un]) rfl ?_
  generalize drawP a.2 3 = b at *
  generalize gI ([3, 12, 1000] : List Int) b.1 = w at *
  generalize hc : drawP b.2 9 = c at *
  refine bd_one (sd_ret (pd_n (pn_lst (ad_cons (pd_n (pn_lc (lcS (List.range c.1.toNat) (fun i : Nat => PyData.int (i : Int)) PyData.int (fun q : Pool => [.o (some l) (.l (pl q)), .d (PyData.int (a.1 - 20)), .d (PyData.int w), .un]) (fun (q : Pool) (_ : Nat) => (drawP q (2 * w + 1)).2) (fun _ _ => true) (fun (q : Pool) (_ : Nat) => a.1 - 20 + (drawP q (2 * w + 1)).1 - w) c.2
    (blkOk_by (own := [("k", 3)]) (show blkC n__law_readings (defScope s__law_readings) _ _ = true by decide +kernel)) (id_rangeI (n := c.1) Y.z_range (pd_callO 0 (c__law_draw Y) hr .nil rfl (ad_cons pd_int ad_nil) rfl ⟨b.2, 9, c, rfl, rfl, ⟨by decide, by decide, ha2⟩, hc.symm, rfl, rfl⟩) (by omega) (by omega)) (by repeat (first | exact Le.nil | apply Le.eq | apply Le.un)) (by rw [List.length_range]; omega) (by intro _ h; cases h) (fun _ => trivial)
    (fun i k q hk hq => ⟨_, _, _, (fun Z hZ => by obtain ⟨s1, H1, C1, cl1, fp1, rfl⟩ := hZ; exact (gv_name 3 (by decide) sc__law_readings.nd)), (fun Z hZ => by obtain ⟨s1, H1, C1, cl1, fp1, rfl⟩ := hZ; exact tsd_nil), (fun Z hZ _ => by obtain ⟨s1, H1, C1, cl1, fp1, rfl⟩ := hZ; exact (pd_sub (pd_add (pd_var 1 rfl) (pd_callO 0 (c__law_draw Y) hr .nil rfl (ad_cons (pd_add (pd_mul (.inl (by decide)) pd_int (pd_var 2 rfl)) pd_int) ad_nil) rfl ⟨q, 2 * w + 1, _, rfl, rfl, ⟨by omega, by omega, by rw [hq]; exact fold_a _ _ _ ha⟩, rfl, rfl, rfl⟩)) (pd_var 2 rfl))), (fun _ => by repeat (first | exact Le.nil | apply Le.eq | apply Le.un)), (fun z => nomatch z)⟩)) sc__law_readings.nd))
    (ad_cons (pd_var 1 rfl) (ad_cons (pd_var 2 rfl) ad_nil))))) ⟨rfl, rfl⟩)

/-! ### the plain law -/
def scan (g : Int → Int → Int) : Int → List Int → List Int
  | _, [] => []
  | t, x :: r => g t x :: scan g (g t x) r
theorem scan_fold (g : Int → Int → Int) : ∀ (xs : List Int) (t : Int) (f : List Int), (xs.foldl (fun (s : Int × List Int) (a : Int) => (g s.1 a, s.2 ++ [g s.1 a])) (t, f)).2 = f ++ scan g t xs
  | [], t, f => by simp [scan]
  | x :: xs, t, f => by rw [List.foldl_cons, scan_fold g xs]; simp [scan]
theorem scan_congr {g h : Int → Int → Int} (e : ∀ t x, g t x = h t x) (t : Int) (xs : List Int) : scan g t xs = scan h t xs := by rw [show g = h from funext fun t => funext fun x => e t x]
theorem scan_len (g : Int → Int → Int) : ∀ (t : Int) (xs : List Int), (scan g t xs).length = xs.length
  | _, [] => rfl
  | t, x :: r => by rw [scan, List.length_cons, scan_len g _ r, List.length_cons]
theorem scan_take (g : Int → Int → Int) : ∀ (n : Nat) (t : Int) (xs : List Int), scan g t (xs.take n) = (scan g t xs).take n
  | 0, _, _ => rfl
  | _ + 1, _, [] => rfl
  | n + 1, t, x :: r => by rw [List.take_succ_cons, scan, scan, List.take_succ_cons, scan_take g n _ r]
theorem scan_map (g : Int → Int → Int) (f : Int → Int) : ∀ (t : Int) (xs : List Int), scan g t (xs.map f) = scan (fun t x => g t (f x)) t xs
  | _, [] => rfl
  | t, x :: r => by rw [List.map_cons, scan, scan, scan_map g f _ r]
def up (m s : Int) : Int → Int → Int := fun t x => max 0 (t + (x - m - s))
def dn (m s : Int) : Int → Int → Int := fun t x => max 0 (t + (m - x - s))
def Rok (r : List Int) : Prop := (∀ x ∈ r, -1000000 ≤ x ∧ x ≤ 1000000) ∧ r.length ≤ 400
theorem sums_eq {r : List Int} (m s : Int) (h : r.length ≤ 400) : m_sums r m s = scan (up m s) 0 r := by
  unfold m_sums
  rw [cr_eq r h]
  rw [← List.nil_append (scan (up m s) 0 r), ← scan_fold (up m s) r 0 []]
  congr 2
  funext q a
  show (max 0 (((q.1 + a) - m) - s), q.2 ++ [max 0 (((q.1 + a) - m) - s)]) = (up m s q.1 a, q.2 ++ [up m s q.1 a])
  rw [show max 0 (((q.1 + a) - m) - s) = up m s q.1 a by unfold up; congr 1; omega]
theorem low_eq {r : List Int} (m s : Int) (h : Rok r) : m_low_sums r m s = scan (dn m s) 0 r := by
  unfold m_low_sums
  rw [sums_eq _ _ (neg_ok r h).2, cr_eq r h.2, scan_map]
  refine scan_congr (fun t x => ?_) _ _
  unfold up dn m_checked_number
  congr 1
  omega
theorem lsums_eq (r : List Int) (m s g : Int) : m__law_sums r m s g = scan (fun t x => max 0 (t + (g * (x - m) - s))) 0 r := by
  unfold m__law_sums
  rw [← List.nil_append (scan _ 0 r), ← scan_fold _ r 0 []]
  congr 2
  funext q a
  show ((if decide (((q.1 + (g * (a - m))) - s) < 0) = true then 0 else ((q.1 + (g * (a - m))) - s)), q.2 ++ [(if decide (((q.1 + (g * (a - m))) - s) < 0) = true then 0 else ((q.1 + (g * (a - m))) - s))]) = (max 0 (q.1 + (g * (a - m) - s)), q.2 ++ [max 0 (q.1 + (g * (a - m) - s))])
  generalize g * (a - m) = v
  have : (if decide (((q.1 + v) - s) < 0) = true then 0 else ((q.1 + v) - s)) = max 0 (q.1 + (v - s)) := by
    by_cases z : ((q.1 + v) - s) < 0
    · rw [if_pos (decide_eq_true z)]; omega
    · rw [if_neg (by simpa using z)]; omega
  rw [this]
theorem lup_eq (r : List Int) (m s : Int) : m__law_sums r m s 1 = scan (up m s) 0 r := by
  rw [lsums_eq]
  refine scan_congr (fun t x => ?_) _ _
  unfold up
  congr 1
  omega
theorem ldn_eq (r : List Int) (m s : Int) : m__law_sums r m s (-1) = scan (dn m s) 0 r := by
  rw [lsums_eq]
  refine scan_congr (fun t x => ?_) _ _
  unfold dn
  congr 1
  omega
theorem limit_eq {r : List Int} (m s : Int) (h : Rok r) : m_least_limit r m s = lmax ([0] ++ m__law_sums r m s 1 ++ m__law_sums r m s (-1)) := by
  unfold m_least_limit
  rw [sums_eq m s h.2, low_eq m s h, lup_eq, ldn_eq]
theorem lmax_iff {ns : List Int} {b : Int} (h : 0 < ns.length) : lmax ns ≤ b ↔ ∀ y ∈ ns, y ≤ b := ⟨fun q y hy => Int.le_trans (lmax_le y hy) q, fun q => q _ (lmax_mem h)⟩
theorem limit_le {r : List Int} (m s b : Int) (h : Rok r) (hb : 0 ≤ b) : m_least_limit r m s ≤ b ↔ (∀ y ∈ scan (up m s) 0 r, y ≤ b) ∧ ∀ y ∈ scan (dn m s) 0 r, y ≤ b := by
  rw [limit_eq m s h, lmax_iff (by simp), lup_eq, ldn_eq]
  constructor
  · intro q
    exact ⟨fun y hy => q y (by simp [hy]), fun y hy => q y (by simp [hy])⟩
  · rintro ⟨q1, q2⟩ y hy
    simp only [List.mem_append, List.mem_singleton] at hy
    rcases hy with (rfl | hy) | hy
    · exact hb
    · exact q1 y hy
    · exact q2 y hy
/-- the alarms of a list, place by place -/
def cond (m s b : Int) (r : List Int) (a : Nat) : Bool := decide (b < gI (scan (up m s) 0 r) (a : Int)) || decide (b < gI (scan (dn m s) 0 r) (a : Int))
theorem gI_get {xs : List Int} {a : Nat} (h : a < xs.length) : gI xs (a : Int) = xs[a] := by rw [gI_nat, getElem!_pos xs a h]
theorem alarm_eq (r : List Int) (m s b : Int) : m__law_alarm r m s b = ((List.range r.length).find? (cond m s b r)).map (fun a : Nat => (a : Int)) := by
  unfold m__law_alarm
  dsimp only
  rw [lup_eq, ldn_eq]
  have e : (fun (a : Nat) => ((decide (b < (gI (scan (up m s) 0 r) (a : Int)))) || (decide (b < (gI (scan (dn m s) 0 r) (a : Int)))))) = cond m s b r := rfl
  rw [e, ← List.head?_filter]
  cases q : (List.range r.length).filter (cond m s b r) with
  | nil => rfl
  | cons x xs =>
    rw [if_pos (by simp)]
    rfl
theorem first_eq {r : List Int} (m s b : Int) (h : Rok r) : m_first_alarm r m s b = m__law_alarm r m s b := by
  rw [fa_eq, alarm_eq, sums_eq m s h.2, low_eq m s h, scan_len]
  rfl
theorem alarm_none {r : List Int} (m s b : Int) (h : Rok r) (hb : 0 ≤ b) : m__law_alarm r m s b = none ↔ m_least_limit r m s ≤ b := by
  rw [alarm_eq, Option.map_eq_none_iff, List.find?_eq_none, limit_le m s b h hb]
  constructor
  · intro q
    constructor
    · intro y hy
      obtain ⟨n, hn, rfl⟩ := List.mem_iff_getElem.mp hy
      have := q n (List.mem_range.mpr (by rw [scan_len] at hn; exact hn))
      unfold cond at this
      rw [gI_get hn] at this
      simp at this
      omega
    · intro y hy
      obtain ⟨n, hn, rfl⟩ := List.mem_iff_getElem.mp hy
      have := q n (List.mem_range.mpr (by rw [scan_len] at hn; exact hn))
      unfold cond at this
      rw [gI_get (xs := scan (dn m s) 0 r) hn] at this
      simp at this
      omega
  · rintro ⟨q1, q2⟩ n hn
    have hn := List.mem_range.mp hn
    unfold cond
    rw [gI_get (xs := scan (up m s) 0 r) (by rw [scan_len]; exact hn), gI_get (xs := scan (dn m s) 0 r) (by rw [scan_len]; exact hn)]
    have h1 := q1 _ (List.getElem_mem (l := scan (up m s) 0 r) (n := n) (by rw [scan_len]; exact hn))
    have h2 := q2 _ (List.getElem_mem (l := scan (dn m s) 0 r) (n := n) (by rw [scan_len]; exact hn))
    simp
    omega
/-! least_slack -/
theorem scan_mono {g h : Int → Int → Int} (e : ∀ t t' x, t ≤ t' → g t x ≤ h t' x) (b : Int) : ∀ (xs : List Int) (t t' : Int), t ≤ t' → (∀ y ∈ scan h t' xs, y ≤ b) → ∀ y ∈ scan g t xs, y ≤ b
  | [], _, _, _, _, y, hy => by cases hy
  | x :: r, t, t', ht, q, y, hy => by
    rw [scan] at hy
    rw [scan] at q
    rcases List.mem_cons.mp hy with z | z
    · rw [z]; exact Int.le_trans (e t t' x ht) (q _ List.mem_cons_self)
    · exact scan_mono e b r _ _ (e t t' x ht) (fun y hy => q y (List.mem_cons_of_mem _ hy)) y z
theorem limit_mono {r : List Int} {m s s' b : Int} (h : Rok r) (hb : 0 ≤ b) (hs : s ≤ s') (q : m_least_limit r m s ≤ b) : m_least_limit r m s' ≤ b := by
  rw [limit_le m _ b h hb] at q ⊢
  exact ⟨scan_mono (fun t t' x ht => by unfold up; omega) b r 0 0 (Int.le_refl _) q.1, scan_mono (fun t t' x ht => by unfold dn; omega) b r 0 0 (Int.le_refl _) q.2⟩
theorem bs_ok (p : Int → Bool) (mono : ∀ x y, x ≤ y → p x = true → p y = true) : ∀ (n : Nat) (lo hi : Int), lo ≤ hi → hi - lo ≤ n → p hi = true → (lo = 0 ∨ p (lo - 1) = false) → 0 ≤ lo → p (bs p n lo hi) = true ∧ (bs p n lo hi = 0 ∨ p (bs p n lo hi - 1) = false) ∧ lo ≤ bs p n lo hi ∧ bs p n lo hi ≤ hi
  | 0, lo, hi, h1, h2, h3, h4, h5 => by
    have : lo = hi := by omega
    subst this
    exact ⟨h3, h4, Int.le_refl _, Int.le_refl _⟩
  | n + 1, lo, hi, h1, h2, h3, h4, h5 => by
    unfold bs
    by_cases q : lo < hi
    · rw [if_pos q]
      have hh : lo ≤ (lo + hi) / 2 ∧ (lo + hi) / 2 < hi := by omega
      generalize (lo + hi) / 2 = half at *
      by_cases z : p half = true
      · rw [if_pos z]
        obtain ⟨q1, q2, q3, q4⟩ := bs_ok p mono n lo half hh.1 (by omega) z h4 h5
        exact ⟨q1, q2, q3, by omega⟩
      · rw [if_neg z]
        obtain ⟨q1, q2, q3, q4⟩ := bs_ok p mono n (half + 1) hi (by omega) (by omega) h3 (.inr (by rw [show half + 1 - 1 = half by omega]; simpa using z)) (by omega)
        exact ⟨q1, q2, by omega, q4⟩
    · rw [if_neg q]
      have : lo = hi := by omega
      subst this
      exact ⟨h3, h4, Int.le_refl _, Int.le_refl _⟩
theorem slack_ok {r : List Int} {m b : Int} (h : Rok r) (hb : 0 ≤ b) (h1 : m_least_limit r m 1000000 ≤ b) : ∃ x, m_least_slack r m b = some x ∧ 0 ≤ x ∧ x ≤ 1000000 ∧ m_least_limit r m x ≤ b ∧ (x = 0 ∨ ¬ m_least_limit r m (x - 1) ≤ b) := by
  unfold m_least_slack
  rw [if_neg (by simp; omega)]
  have := bs_ok (fun h => decide (m_least_limit r m h ≤ b)) (fun x y hxy hp => by
    simp only [decide_eq_true_eq] at hp ⊢
    exact limit_mono h hb hxy hp) 1000000 0 1000000 (by decide) (by decide) (by simpa using h1) (.inl rfl) (by decide)
  obtain ⟨q1, q2, q3, q4⟩ := this
  refine ⟨_, rfl, q3, q4, by simpa using q1, ?_⟩
  rcases q2 with z | z
  · exact .inl z
  · exact .inr (by simpa using z)
theorem limit_far {r : List Int} {m : Int} (h1 : ∀ x ∈ r, -2000 ≤ x ∧ x ≤ 2000) (h2 : r.length ≤ 400) (hm : -2000 ≤ m ∧ m ≤ 2000) {b : Int} (hb : 0 ≤ b) : m_least_limit r m 1000000 ≤ b := by
  have key : ∀ (g : Int → Int → Int), (∀ x ∈ r, ∀ t, t ≤ 0 → g t x ≤ 0) → ∀ y ∈ scan g 0 r, y ≤ b := by
    intro g hg
    have : ∀ (xs : List Int) (t : Int), (∀ x ∈ xs, ∀ t, t ≤ 0 → g t x ≤ 0) → t ≤ 0 → ∀ y ∈ scan g t xs, y ≤ 0 := by
      intro xs
      induction xs with
      | nil => intro t _ _ y hy; cases hy
      | cons x xs ih =>
        intro t hx ht y hy
        rw [scan] at hy
        have h0 := hx x List.mem_cons_self t ht
        rcases List.mem_cons.mp hy with z | z
        · rw [z]; exact h0
        · exact ih _ (fun x hx' => hx x (List.mem_cons_of_mem _ hx')) h0 y z
    intro y hy
    have := this r 0 hg (Int.le_refl _) y hy
    omega
  rw [limit_le m _ b ⟨fun x hx => by have := h1 x hx; omega, h2⟩ hb]
  exact ⟨key _ fun x hx t ht => by have := h1 x hx; unfold up; omega, key _ fun x hx t ht => by have := h1 x hx; unfold dn; omega⟩
/-! resets -/
theorem cond_take (m s b : Int) (r : List Int) (n a : Nat) (h : a < n) (h2 : a < r.length) : cond m s b (r.take n) a = cond m s b r a := by
  unfold cond
  rw [scan_take, scan_take]
  have e : ∀ xs : List Int, a < xs.length → gI (xs.take n) (a : Int) = gI xs (a : Int) := fun xs hx => by
    rw [gI_get (xs := xs.take n) (by rw [List.length_take]; omega), gI_get hx, List.getElem_take]
  rw [e _ (by rw [scan_len]; exact h2), e _ (by rw [scan_len]; exact h2)]
/-- an alarm within the first n -/
theorem alarm_take (m s b : Int) (r : List Int) (n : Nat) (h : n ≤ r.length) : (m__law_alarm (r.take n) m s b).isNone = false ↔ ∃ p : Nat, m__law_alarm r m s b = some (p : Int) ∧ p < n := by
  rw [alarm_eq, alarm_eq, List.length_take, Nat.min_eq_left h]
  constructor
  · intro q
    cases z : (List.range n).find? (cond m s b (r.take n)) with
    | none => rw [z] at q; cases q
    | some a =>
      have ha := List.mem_range.mp (List.mem_of_find?_eq_some z)
      have hc := List.find?_some z
      rw [cond_take m s b r n a ha (by omega)] at hc
      cases z2 : (List.range r.length).find? (cond m s b r) with
      | none =>
        have := List.find?_eq_none.mp z2 a (List.mem_range.mpr (by omega))
        exact absurd hc this
      | some p =>
        refine ⟨p, rfl, ?_⟩
        by_cases hp : p < n
        · exact hp
        · exfalso
          have hb := (List.find?_eq_some_iff_append.mp z2).2
          obtain ⟨as, bs, e, hn⟩ := hb
          have hlen : p = as.length := by
            have h1 : (List.range r.length)[as.length]? = some p := by rw [e]; simp
            rw [List.getElem?_eq_some_iff] at h1
            obtain ⟨_, h1⟩ := h1
            rw [List.getElem_range] at h1
            exact h1.symm
          have hmem : a ∈ as := by
            have h1 : (List.range r.length)[a]? = some a := by rw [List.getElem?_range (by omega)]
            rw [e, List.getElem?_append_left (by omega)] at h1
            exact List.mem_of_getElem? h1
          have := hn a hmem
          rw [hc] at this
          cases this
  · rintro ⟨p, hp, hlt⟩
    cases z2 : (List.range r.length).find? (cond m s b r) with
    | none => rw [z2] at hp; cases hp
    | some a =>
      rw [z2] at hp
      have ea : a = p := by
        have : (a : Int) = (p : Int) := Option.some.inj hp
        omega
      subst ea
      cases z : (List.range n).find? (cond m s b (r.take n)) with
      | some _ => rfl
      | none =>
        exfalso
        have h1 := List.find?_eq_none.mp z a (List.mem_range.mpr hlt)
        have hr := List.mem_range.mp (List.mem_of_find?_eq_some z2)
        rw [cond_take m s b r n a hlt hr] at h1
        exact h1 (List.find?_some z2)
/-- the law's own going through -/
def dueStep (r : List Int) (m s b : Int) (q : List Int × Int) (k : Nat) : List Int × Int := if (decide (q.2 ≤ (k : Int)) && !(m__law_alarm (cutG r (some q.2) (some ((k : Int) + 1))) m s b).isNone) = true then (q.1 ++ [(k : Int)], (k : Int) + 1) else q
theorem due_eq {r : List Int} (m s b : Int) (h : Rok r) : ∀ (j i : Nat) (due : List Int) (c fuel : Nat), i + j = r.length → c ≤ i → r.length - c < fuel → (∀ p : Nat, m__law_alarm (r.drop c) m s b = some (p : Int) → i ≤ c + p) →
    ((List.range' i j).foldl (dueStep r m s b) (due, (c : Int))).1 = due ++ rsF (fun q => m_first_alarm q m s b) r fuel (c : Int)
  | j, i, due, c, 0, _, _, hf, _ => by omega
  | 0, i, due, c, fuel + 1, h1, h2, hf, h3 => by
    show due = due ++ (match m_first_alarm (cutG r (some (c : Int)) none) m s b with | none => [] | some p => ((c : Int) + p) :: rsF (fun q => m_first_alarm q m s b) r fuel ((c : Int) + p + 1))
    rw [cutG_from r c (by omega), first_eq m s b ⟨fun x hx => h.1 x (List.mem_of_mem_drop hx), by rw [List.length_drop]; have := h.2; omega⟩]
    cases z : m__law_alarm (r.drop c) m s b with
    | none => simp
    | some p =>
      exfalso
      rw [alarm_eq] at z
      cases z2 : (List.range (r.drop c).length).find? (cond m s b (r.drop c)) with
      | none => rw [z2] at z; cases z
      | some a =>
        rw [z2] at z
        have ha := List.mem_range.mp (List.mem_of_find?_eq_some z2)
        have := h3 a (by rw [alarm_eq, z2]; rfl)
        rw [List.length_drop] at ha
        omega
  | j + 1, i, due, c, fuel + 1, h1, h2, hf, h3 => by
    rw [List.range'_succ, List.foldl_cons]
    have hc : (m__law_alarm (cutG r (some (c : Int)) (some ((i : Int) + 1))) m s b).isNone = false ↔ m__law_alarm (r.drop c) m s b = some ((i - c : Nat) : Int) := by
      rw [show ((i : Int) + 1) = ((i + 1 : Nat) : Int) by omega, cutG_mid r c (i + 1) (by omega) (by omega), alarm_take m s b _ _ (by rw [List.length_drop]; omega)]
      constructor
      · rintro ⟨p, hp, hlt⟩
        have := h3 p hp
        rw [hp, show p = i - c by omega]
      · intro q
        exact ⟨i - c, q, by omega⟩
    by_cases z : m__law_alarm (r.drop c) m s b = some ((i - c : Nat) : Int)
    · have e1 : dueStep r m s b (due, (c : Int)) i = (due ++ [(i : Int)], ((i + 1 : Nat) : Int)) := by
        unfold dueStep
        rw [if_pos (by rw [Bool.and_eq_true_iff]; exact ⟨decide_eq_true (by dsimp only; omega), by rw [hc.mpr z]; rfl⟩)]
        rfl
      rw [e1, due_eq m s b h j (i + 1) (due ++ [(i : Int)]) (i + 1) fuel (by omega) (Nat.le_refl _) (by omega) (fun p _ => by omega)]
      show _ = due ++ (match m_first_alarm (cutG r (some (c : Int)) none) m s b with | none => [] | some p => ((c : Int) + p) :: rsF (fun q => m_first_alarm q m s b) r fuel ((c : Int) + p + 1))
      rw [cutG_from r c (by omega), first_eq m s b ⟨fun x hx => h.1 x (List.mem_of_mem_drop hx), by rw [List.length_drop]; have := h.2; omega⟩, z]
      dsimp only
      rw [show (c : Int) + ((i - c : Nat) : Int) = (i : Int) by omega]
      simp
    · have e1 : dueStep r m s b (due, (c : Int)) i = (due, (c : Int)) := by
        unfold dueStep
        rw [if_neg]
        intro q
        have q2 := (Bool.and_eq_true_iff.mp q).2
        refine z (hc.mp ?_)
        simpa using q2
      rw [e1]
      exact due_eq m s b h j (i + 1) due c (fuel + 1) (by omega) (by omega) hf fun p hp => by
        have := h3 p hp
        rcases Nat.lt_or_ge (c + p) (i + 1) with q | q
        · exfalso
          exact z (by rw [hp, show p = i - c by omega])
        · exact q
theorem resets_due {r : List Int} (m s b : Int) (h : Rok r) : m_resets r m s b = ((List.range r.length).foldl (dueStep r m s b) ([], 0)).1 := by
  unfold m_resets
  rw [cr_eq r h.2]
  have := due_eq m s b h r.length 0 [] 0 401 (by omega) (by omega) (by have := h.2; omega) (fun p _ => by omega)
  rw [List.range_eq_range']
  exact this.symm
/-! runs -/
def rowStep (r : List Int) (m : Int) (q : List (Int × Int × Int)) (k : Nat) : List (Int × Int × Int) :=
  let side : Int := if decide (m < gI r (k : Int)) = true then 1 else if decide (gI r (k : Int) < m) = true then -1 else 0
  if (decide (0 < (q.length : Int)) && decide ((gI q ((q.length : Int) - 1)).2.2 = side)) = true then setI q ((q.length : Int) - 1) ((gI q ((q.length : Int) - 1)).1, (k : Int) + 1, side) else q ++ [((k : Int), (k : Int) + 1, side)]
theorem runs_rows {r : List Int} (m : Int) (h : r.length ≤ 400) : m_runs r m = (List.range r.length).foldl (rowStep r m) [] := by
  unfold m_runs
  dsimp only
  rw [cr_eq r h]
  congr 1
  funext q k
  unfold rowStep
  dsimp only
  have e : ((if (decide (m < (gI r (k : Int)))) = true then 1 else 0) - (if (decide ((gI r (k : Int)) < m)) = true then 1 else 0) : Int) = (if decide (m < gI r (k : Int)) = true then 1 else if decide (gI r (k : Int) < m) = true then -1 else 0) := by
    simp only [decide_eq_true_eq]
    split <;> split <;> omega
  rw [e]
  generalize (if decide (m < gI r (k : Int)) = true then (1 : Int) else if decide (gI r (k : Int) < m) = true then -1 else 0) = sd
  cases q with
  | nil => rfl
  | cons x xs =>
    have e1 : gI (x :: xs) (-1) = gI (x :: xs) (((x :: xs).length : Int) - 1) := by
      unfold gI
      rw [if_pos (by decide), if_neg (by simp)]
      congr 2
    have e2 : ∀ v, setI (x :: xs) (-1) v = setI (x :: xs) (((x :: xs).length : Int) - 1) v := fun v => by
      unfold setI
      rw [if_pos (by decide), if_neg (by simp)]
      congr 2
    rw [e1, e2]
    have e3 : (!(x :: xs).isEmpty) = decide (0 < ((x :: xs).length : Int)) := by simp
    rw [e3]
/-! the far ones -/
theorem far_none : m_least_slack [1000000, 1000000, 1000000] (-1000000) 5 = none := by
  unfold m_least_slack
  have h : Rok [1000000, 1000000, 1000000] := ⟨by intro x hx; simp at hx; omega, by decide⟩
  rw [if_pos]
  refine decide_eq_true ?_
  rw [← Int.not_le, limit_le _ _ _ h (by decide)]
  intro q
  have := q.1 1000000 (by decide)
  omega
theorem far_some : m_least_slack [1000000, 1000000, 1000000] 0 0 = some 1000000 := by
  have h : Rok [1000000, 1000000, 1000000] := ⟨by intro x hx; simp at hx; omega, by decide⟩
  have h1 : m_least_limit [1000000, 1000000, 1000000] 0 1000000 ≤ 0 := by
    rw [limit_le _ _ _ h (by decide)]
    exact ⟨by intro y hy; revert y; decide, by intro y hy; revert y; decide⟩
  obtain ⟨x, e, x0, x1, x2, x3⟩ := slack_ok h (by decide) h1
  rw [e]
  congr 1
  rw [limit_le _ _ _ h (by decide)] at x2
  have := x2.1 (max 0 (0 + (1000000 - 0 - x))) (by rw [scan]; exact List.mem_cons_self)
  omega
end
end GP

namespace GP
open PySem PySem.Spec PyProof.Rows L2 G
section
variable {P : Program} {w : World} {K : PySem.W.Frag} {mg : Str → Option Value} {base : Heap}

theorem scan_small {r : List Int} {m s : Int} (h : Rok r) (hm : -1000000 ≤ m ∧ m ≤ 1000000) (hs : 0 ≤ s) {g : Int → Int → Int} (hg : g = up m s ∨ g = dn m s) : ∀ y ∈ scan g 0 r, y ≤ 1000000000 := by
  have key : ∀ (xs : List Int) (t : Int) (n : Nat), (∀ x ∈ xs, -1000000 ≤ x ∧ x ≤ 1000000) → t ≤ 2000000 * n → xs.length + n ≤ 400 → ∀ y ∈ scan g t xs, y ≤ 1000000000 := by
    intro xs
    induction xs with
    | nil => intro t n _ _ _ y hy; cases hy
    | cons x xs ih =>
      intro t n hx ht hn y hy
      rw [scan] at hy
      have h0 := hx x List.mem_cons_self
      rw [List.length_cons] at hn
      have h1 : g t x ≤ 2000000 * ((n + 1 : Nat) : Int) := by
        rcases hg with e | e <;> rw [e]
        · unfold up; omega
        · unfold dn; omega
      rcases List.mem_cons.mp hy with z | z
      · rw [z]; omega
      · exact ih _ (n + 1) (fun x hx' => hx x (List.mem_cons_of_mem _ hx')) h1 (by omega) y z
  exact key r 0 0 h.1 (by decide) (by have := h.2; omega)

theorem nice_ints {xs : List Int} (h : xs.length < 100000) : Nice 1 (dL PyData.int xs) := .lst (by rw [List.length_map]; exact h) fun x hx => by
  obtain ⟨y, _, rfl⟩ := List.mem_map.mp hx
  exact .int y
theorem nice_rows {xs : List (Int × Int × Int)} (h : xs.length < 100000) : Nice 2 (dL (dT3 PyData.int PyData.int PyData.int) xs) := .lst (by rw [List.length_map]; exact h) fun x hx => by
  obtain ⟨y, _, rfl⟩ := List.mem_map.mp hx
  exact .tup (by simp) fun z hz => by
    simp at hz
    rcases hz with rfl | rfl | rfl <;> exact .int _
theorem runs_len2 {r : List Int} (m : Int) (h : r.length ≤ 400) : ((List.range r.length).foldl (rowStep r m) []).length ≤ 400 := by
  rw [← runs_rows m h]
  have := runs_len r m
  rw [cr_len r h] at this
  omega
theorem lmax_top {xs ys : List Int} : 0 ≤ lmax ([0] ++ xs ++ ys) := lmax_le 0 (by simp)
theorem due_len (r : List Int) (m s b : Int) : ∀ (xs : List Nat) (q : List Int × Int), (xs.foldl (dueStep r m s b) q).1.length ≤ q.1.length + xs.length := by
  intro xs
  induction xs with
  | nil => intro q; exact Nat.le_refl _
  | cons x xs ih =>
    intro q
    rw [List.foldl_cons]
    refine Nat.le_trans (ih _) ?_
    have : (dueStep r m s b q x).1.length ≤ q.1.length + 1 := by
      unfold dueStep
      split
      · simp
      · omega
    simp; omega
/-- a turn's draws -/
def turnP (wd : Int) (p : Pool) : Pool := (drawP (drawP (drawP p (4 * wd)).2 wd).2 4).2
theorem law_fn {fd : FuncData} (F : FunD K "law" "law" (defArgs s_law) (defBody s_law) (defScope s_law) [] [] (He.ga K "law") fd) (Y : Py K mg) : FnOk P w K mg base (L2.CX P w) 20 (He.ga K "law") fd ["script"] (spD K LawS) := by
  refine fn_DD F sc_law (fun ds r h => by obtain ⟨_, rfl, _⟩ := h; rfl) (by decide) (fun cdv A outer s H E hr ds r h => ?_)
  obtain ⟨ns, rfl, hl, rfl⟩ := h
  refine bd_seq (sd_setN 1 (pn_call (c__law_pool Y) hr .nil (ad_cons (pd_var 0 rfl) ad_nil) ⟨ns, rfl, rfl⟩) rfl sc_law.nd) ?_
  have Ap0 : (0 : Int) ≤ (⟨ns, 0, 0, 0, 0⟩ : Pool).a := Int.le_refl _
  generalize (⟨ns, 0, 0, 0, 0⟩ : Pool) = p0 at Ap0 ⊢
  refine bd_env (ρ' := [.d (dL PyData.int ns), .o none (.l (pl p0)), .un, .un, .un, .un, .un, .un, .un, .un, .un, .un, .un, .un, .un, .un, .un]) rfl ?_
  have R := readP_ok p0 Ap0
  obtain ⟨rd, hrd⟩ : ∃ rd, rd = readP p0 := ⟨_, rfl⟩
  rw [← hrd] at R
  refine bd_seq (sd_unpack (pd_callO 1 (c__law_readings Y) hr .nil rfl ad_nil rfl ⟨p0, rd, rfl, rfl, Ap0, hrd, rfl, rfl⟩) (gd_lst rfl (gsd_cons (gd_name 2 sc_law.nd) (gsd_cons (gd_name 3 sc_law.nd) (gsd_cons (gd_name 4 sc_law.nd) gsd_nil)))) rfl) ?_
  obtain ⟨⟨rs, m, wd⟩, p1⟩ := rd
  clear hrd
  dsimp only at R
  obtain ⟨⟨Rx, Rl⟩, Rm, Rw, Ap1⟩ := R
  refine bd_env (ρ' := [.d (dL PyData.int ns), .o none (.l (pl p1)), .d (dL PyData.int rs), .d (PyData.int m), .d (PyData.int wd), .un, .un, .un, .un, .un, .un, .un, .un, .un, .un, .un, .un]) rfl ?_
  have ok : Rok rs := ⟨fun x hx => by have := Rx x hx; omega, by omega⟩
  -- slack
  have B2 := draw_bd p1 (n := wd) (by omega)
  have Ap2 := draw_a p1 wd Ap1
  obtain ⟨r2, h2⟩ : ∃ r, r = drawP p1 wd := ⟨_, rfl⟩
  rw [← h2] at B2 Ap2
  refine bd_seq (sd_set 5 (pd_callO 1 (c__law_draw Y) hr .nil rfl (ad_cons (pd_var 4 rfl) ad_nil) rfl ⟨p1, wd, r2, rfl, rfl, ⟨by omega, by omega, Ap1⟩, h2, rfl, rfl⟩) rfl sc_law.nd) ?_
  obtain ⟨sl, p2⟩ := r2
  clear h2
  dsimp only at B2 Ap2
  refine bd_env (ρ' := [.d (dL PyData.int ns), .o none (.l (pl p2)), .d (dL PyData.int rs), .d (PyData.int m), .d (PyData.int wd), .d (PyData.int sl), .un, .un, .un, .un, .un, .un, .un, .un, .un, .un, .un]) rfl ?_
  -- top
  have l1 := lsums_len rs m sl 1
  have l2 := lsums_len rs m sl (-1)
  refine bd_seq (sd_set 6 (pd_maxD (ns := ([0] ++ m__law_sums rs m sl 1 ++ m__law_sums rs m sl (-1))) rfl Y.z_max (by simp) (pd_n (pn_catM (f := PyData.int) (ns := [0] ++ m__law_sums rs m sl 1) (ms := m__law_sums rs m sl (-1)) (pq_d (pd_n (pn_catM (f := PyData.int) (ns := [0]) (ms := m__law_sums rs m sl 1) (pq_d (pd_n (pn_lst (ad_cons pd_int ad_nil)))) srcN (pq_d (pd_call (c__law_sums Y) hr .nil (ad_cons (pd_var 2 rfl) (ad_cons (pd_var 3 rfl) (ad_cons (pd_var 5 rfl) (ad_cons pd_int ad_nil)))) ⟨rs, m, sl, 1, rfl, ⟨.inl rfl, by omega⟩, rfl⟩)) srcN (by simp; omega)))) srcN (pq_d (pd_call (c__law_sums Y) hr .nil (ad_cons (pd_var 2 rfl) (ad_cons (pd_var 3 rfl) (ad_cons (pd_var 5 rfl) (ad_cons (pd_neg pd_int) ad_nil)))) ⟨rs, m, sl, -1, rfl, ⟨.inr rfl, by omega⟩, rfl⟩)) srcN (by simp; omega)))) rfl sc_law.nd) ?_
  have htop : m_least_limit rs m sl = lmax ([0] ++ m__law_sums rs m sl 1 ++ m__law_sums rs m sl (-1)) := limit_eq m sl ok
  have top0 : 0 ≤ lmax ([0] ++ m__law_sums rs m sl 1 ++ m__law_sums rs m sl (-1)) := lmax_top
  generalize lmax ([0] ++ m__law_sums rs m sl 1 ++ m__law_sums rs m sl (-1)) = top at htop top0 ⊢
  have topB : top ≤ 1000000000 := by
    rw [← htop, limit_le m sl _ ok (by decide)]
    exact ⟨scan_small ok (by omega) (by omega) (.inl rfl), scan_small ok (by omega) (by omega) (.inr rfl)⟩
  refine bd_env (ρ' := [.d (dL PyData.int ns), .o none (.l (pl p2)), .d (dL PyData.int rs), .d (PyData.int m), .d (PyData.int wd), .d (PyData.int sl), .d (PyData.int top), .un, .un, .un, .un, .un, .un, .un, .un, .un, .un]) rfl ?_
  -- least_limit
  refine bd_guard (k := !true) (td_not (td_val (pd_call (c__law_same Y 0) hr .nil (ad_cons (pd_cast (congrArg PyData.int htop) (pd_call (c_least_limit Y) hr .nil (ad_cons (pd_var 2 rfl) (ad_cons (pd_var 3 rfl) (ad_cons (pd_var 5 rfl) ad_nil))) ⟨rs, m, sl, rfl, ⟨ok, by omega⟩, rfl⟩)) (ad_cons (pd_var 6 rfl) ad_nil)) ⟨_, rfl, .int _, rfl⟩))) (fun h => nomatch h) (fun _ => ?_)
  -- the turns
  refine bd_cut (fun r => ∃ q : Pool, Le [.d (dL PyData.int ns), .o none (.l (pl q)), .d (dL PyData.int rs), .d (PyData.int m), .d (PyData.int wd), .d (PyData.int sl), .d (PyData.int top), .un, .un, .un, .un, .un, .un, .un, .un, .un, .un] r) (sd_forF (List.range 4) (fun i : Nat => PyData.int (i : Int)) (fun q : Pool => [.d (dL PyData.int ns), .o none (.l (pl q)), .d (dL PyData.int rs), .d (PyData.int m), .d (PyData.int wd), .d (PyData.int sl), .d (PyData.int top), .un, .un, .un, .un, .un, .un, .un, .un, .un, .un]) (fun q _ => turnP wd q) p2 (fun _ q => 0 ≤ q.a) (passes_of rfl) rfl (id_range0 (n := 4) Y.z_range pd_int (by decide)) (by repeat (first | exact Le.nil | apply Le.eq | apply Le.un)) Ap2 (fun _ => trivial) (fun i q k hk hq Aq => ⟨_, gd_name 7 sc_law.nd, ?_⟩) (fun q _ _ => ⟨q, Le.refl _⟩)) ?_
  · clear hq
    refine bd_env (ρ' := [.d (dL PyData.int ns), .o none (.l (pl q)), .d (dL PyData.int rs), .d (PyData.int m), .d (PyData.int wd), .d (PyData.int sl), .d (PyData.int top), .d (PyData.int (k : Int)), .un, .un, .un, .un, .un, .un, .un, .un, .un]) rfl ?_
    -- limit
    have B3 := draw_bd q (n := 4 * wd) (by omega)
    have Aq3 := draw_a q (4 * wd) Aq
    have eT : turnP wd q = (drawP (drawP (drawP q (4 * wd)).2 wd).2 4).2 := rfl
    obtain ⟨r3, h3⟩ : ∃ r, r = drawP q (4 * wd) := ⟨_, rfl⟩
    rw [← h3] at B3 Aq3 eT
    have B4 := draw_bd r3.2 (n := wd) (by omega)
    have Aq4 := draw_a r3.2 wd Aq3
    obtain ⟨r4, h4⟩ : ∃ r, r = drawP r3.2 wd := ⟨_, rfl⟩
    rw [← h4] at B4 Aq4 eT
    have B5 := draw_bd r4.2 (n := 4) (by decide)
    have Aq5 := draw_a r4.2 4 Aq4
    obtain ⟨r5, h5⟩ : ∃ r, r = drawP r4.2 4 := ⟨_, rfl⟩
    rw [← h5] at B5 Aq5 eT
    obtain ⟨lim, hlim, lim0, lim1⟩ : ∃ lim : Int, ([PyData.int 0, PyData.int top, PyData.int r3.1, PyData.int r4.1] : List PyData)[r5.1.toNat]? = some (PyData.int lim) ∧ 0 ≤ lim ∧ lim ≤ 1000000000 := by
      have : r5.1 = 0 ∨ r5.1 = 1 ∨ r5.1 = 2 ∨ r5.1 = 3 := by omega
      rcases this with e | e | e | e <;> rw [e]
      · exact ⟨0, rfl, by omega, by omega⟩
      · exact ⟨top, rfl, top0, topB⟩
      · exact ⟨r3.1, rfl, by omega, by omega⟩
      · exact ⟨r4.1, rfl, by omega, by omega⟩
    refine bd_seq (sd_set 8 (pd_callO (y := PyData.int lim) 1 (c__law_pick Y) hr .nil rfl (ad_cons (pd_n (pn_lst (ad_cons pd_int (ad_cons (pd_var 6 rfl) (ad_cons (pd_callO 1 (c__law_draw Y) hr .nil rfl (ad_cons (pd_mul (.inl (by decide)) pd_int (pd_var 4 rfl)) ad_nil) rfl ⟨q, 4 * wd, r3, rfl, rfl, ⟨by omega, by omega, Aq⟩, h3, rfl, rfl⟩) (ad_cons (pd_callO 1 (c__law_draw Y) hr .nil rfl (ad_cons (pd_var 4 rfl) ad_nil) rfl ⟨r3.2, wd, r4, rfl, rfl, ⟨by omega, by omega, Aq3⟩, h4, rfl, rfl⟩) ad_nil)))))) ad_nil) rfl ⟨r4.2, _, r5, rfl, rfl, ⟨by simp, by simp, Aq4⟩, h5, hlim, rfl⟩) rfl sc_law.nd) ?_
    rw [eT]
    obtain ⟨i5, p5⟩ := r5
    dsimp only at Aq5 ⊢
    clear h3 h4 h5 hlim eT
    refine bd_env (ρ' := [.d (dL PyData.int ns), .o none (.l (pl p5)), .d (dL PyData.int rs), .d (PyData.int m), .d (PyData.int wd), .d (PyData.int sl), .d (PyData.int top), .d (PyData.int (k : Int)), .d (PyData.int lim), .un, .un, .un, .un, .un, .un, .un, .un]) rfl ?_
    -- least
    obtain ⟨x, ex, x0, x1, xle, xlt⟩ := slack_ok ok lim0 (limit_far (r := rs) (m := m) (fun y hy => by have := Rx y hy; omega) (by omega) (by omega) lim0)
    refine bd_seq (sd_set 9 (pd_cast (y := PyData.int x) (by rw [ex]; rfl) (pd_call (c_least_slack Y) hr .nil (ad_cons (pd_var 2 rfl) (ad_cons (pd_var 3 rfl) (ad_cons (pd_var 8 rfl) ad_nil))) ⟨rs, m, lim, rfl, ⟨ok, by omega⟩, rfl⟩)) rfl sc_law.nd) ?_
    refine bd_env (ρ' := [.d (dL PyData.int ns), .o none (.l (pl p5)), .d (dL PyData.int rs), .d (PyData.int m), .d (PyData.int wd), .d (PyData.int sl), .d (PyData.int top), .d (PyData.int (k : Int)), .d (PyData.int lim), .d (PyData.int x), .un, .un, .un, .un, .un, .un, .un]) rfl ?_
    refine bd_guard (k := false || (!true || !(decide (0 ≤ x) && decide (x ≤ 1000000)))) (td_w (wd_or (td_val (pd_isi (x := .int x) (T := "bool") (k := false) rfl (show kitB "int" "bool" = some false by decide +kernel) Y.z_isinstance (pe_cls Y.z_bool rfl) (pd_var 9 rfl))) fun _ => wd_or (td_not (td_val (pd_isi (x := .int x) (T := "int") (k := true) rfl (show kitB "int" "int" = some true by decide +kernel) Y.z_isinstance (pe_cls Y.z_int rfl) (pd_var 9 rfl)))) fun _ => wd_or1 (td_not (td_chain (f := fun i j => decide (i ≤ j)) (g := fun i j => decide (i ≤ j)) (i := 0) (j := x) (l := 1000000) rfl rfl pd_int (pd_var 9 rfl) (fun _ => pd_int))))) (fun h => absurd h (by simp; omega)) (fun _ => ?_)
    have n1 : m__law_alarm rs m x lim = none := (alarm_none m x lim ok lim0).mpr xle
    refine bd_guard (k := false) (td_cast (k := !isNone (dO PyData.int (m__law_alarm rs m x lim))) (by rw [n1]; rfl) (td_notN (pd_call (c__law_alarm Y) hr .nil (ad_cons (pd_var 2 rfl) (ad_cons (pd_var 3 rfl) (ad_cons (pd_var 9 rfl) (ad_cons (pd_var 8 rfl) ad_nil)))) ⟨rs, m, x, lim, rfl, by omega, rfl⟩))) (fun h => nomatch h) (fun _ => ?_)
    refine bd_guard (k := decide (0 < x) && isNone (dO PyData.int (m__law_alarm rs m (x - 1) lim))) (td_w (wd_and (td_gt (pd_var 9 rfl) pd_int) fun _ => wd_and1 (td_isN (pd_call (c__law_alarm Y) hr .nil (ad_cons (pd_var 2 rfl) (ad_cons (pd_var 3 rfl) (ad_cons (pd_sub (pd_var 9 rfl) pd_int) (ad_cons (pd_var 8 rfl) ad_nil)))) ⟨rs, m, x - 1, lim, rfl, by omega, rfl⟩)))) (fun h => ?_) (fun _ => ?_)
    · exfalso
      obtain ⟨h1, h2⟩ := Bool.and_eq_true_iff.mp h
      have h1 := of_decide_eq_true h1
      rcases xlt with z | z
      · omega
      · refine z ((alarm_none m (x - 1) lim ok lim0).mp ?_)
        cases q2 : m__law_alarm rs m (x - 1) lim with
        | none => rfl
        | some v => rw [q2] at h2; cases h2
    -- due
    refine bd_seq (sd_setN 10 (pn_lst ad_nil) rfl sc_law.nd) ?_
    refine bd_seq (sd_set 11 pd_int rfl sc_law.nd) ?_
    refine bd_env (ρ' := [.d (dL PyData.int ns), .o none (.l (pl p5)), .d (dL PyData.int rs), .d (PyData.int m), .d (PyData.int wd), .d (PyData.int sl), .d (PyData.int top), .d (PyData.int (k : Int)), .d (PyData.int lim), .d (PyData.int x), .ol (([] : List Int).map PyData.int), .d (PyData.int 0), .un, .un, .un, .un, .un]) rfl ?_
    refine bd_cut (fun r => ∃ u : List Int × Int, u = (List.range rs.length).foldl (dueStep rs m sl lim) ([], 0) ∧ Le [.d (dL PyData.int ns), .o none (.l (pl p5)), .d (dL PyData.int rs), .d (PyData.int m), .d (PyData.int wd), .d (PyData.int sl), .d (PyData.int top), .d (PyData.int (k : Int)), .d (PyData.int lim), .d (PyData.int x), .ol (u.1.map PyData.int), .d (PyData.int u.2), .un, .un, .un, .un, .un] r) (sd_forF (List.range rs.length) (fun i : Nat => PyData.int (i : Int)) (fun u : List Int × Int => [.d (dL PyData.int ns), .o none (.l (pl p5)), .d (dL PyData.int rs), .d (PyData.int m), .d (PyData.int wd), .d (PyData.int sl), .d (PyData.int top), .d (PyData.int (k : Int)), .d (PyData.int lim), .d (PyData.int x), .ol (u.1.map PyData.int), .d (PyData.int u.2), .un, .un, .un, .un, .un]) (dueStep rs m sl lim) ([], 0) (fun i u => u.1.length ≤ i ∧ 0 ≤ u.2 ∧ u.2 ≤ i) (passes_of rfl) rfl (id_range0 (n := rs.length) Y.z_range (pd_lenD (f := PyData.int) (ns := rs) Y.z_len (pd_var 2 rfl)) (by omega)) (by repeat (first | exact Le.nil | apply Le.eq | apply Le.un)) (by simp) (fun _ => trivial) (fun i u a ha hu pv => ⟨_, gd_name 12 sc_law.nd, ?_⟩) (fun u hu _ => ⟨u, hu, Le.refl _⟩)) ?_
    · have hia : a = i := by
        rw [List.getElem?_eq_some_iff] at ha
        obtain ⟨_, ha⟩ := ha
        rw [List.getElem_range] at ha
        exact ha.symm
      have hlt : a < rs.length := List.mem_range.mp (List.mem_of_getElem? ha)
      subst hia
      clear hu ha
      obtain ⟨du, bg⟩ := u
      dsimp only at pv
      refine bd_env (ρ' := [.d (dL PyData.int ns), .o none (.l (pl p5)), .d (dL PyData.int rs), .d (PyData.int m), .d (PyData.int wd), .d (PyData.int sl), .d (PyData.int top), .d (PyData.int (k : Int)), .d (PyData.int lim), .d (PyData.int x), .ol (du.map PyData.int), .d (PyData.int bg), .d (PyData.int (a : Int)), .un, .un, .un, .un]) rfl ?_
      obtain ⟨bn, rfl⟩ : ∃ bn : Nat, bg = bn := ⟨bg.toNat, by omega⟩
      have cutl : (cutG rs (some (bn : Int)) (some ((a : Int) + 1))).length ≤ 400 := by
        rw [show ((a : Int) + 1) = ((a + 1 : Nat) : Int) by omega, cutG_mid rs bn (a + 1) (by omega) (by omega), List.length_take, List.length_drop]
        omega
      refine bd_one (sd_if (k := decide ((bn : Int) ≤ (a : Int)) && !isNone (dO PyData.int (m__law_alarm (cutG rs (some (bn : Int)) (some ((a : Int) + 1))) m sl lim))) (td_w (wd_and (td_ge (pd_var 12 rfl) (pd_var 11 rfl)) fun _ => wd_and1 (td_notN (pd_call (c__law_alarm Y) hr .nil (ad_cons (pd_n (pn_sliceD (f := PyData.int) (ns := rs) (ol := some (bn : Int)) (oh := some ((a : Int) + 1)) (pd_var 2 rfl) (od_some (pd_var 11 rfl)) (od_some (pd_add (pd_var 12 rfl) pd_int)))) (ad_cons (pd_var 3 rfl) (ad_cons (pd_var 5 rfl) (ad_cons (pd_var 8 rfl) ad_nil)))) ⟨_, m, sl, lim, rfl, cutl, rfl⟩)))) (fun hk => ?_) (fun hk => ?_))
      · rw [isN_dO _ (by intro _; rfl)] at hk
        have e : dueStep rs m sl lim (du, (bn : Int)) a = (du ++ [(a : Int)], (a : Int) + 1) := by unfold dueStep; rw [if_pos hk]
        refine bd_seq (sd_appendM (f := PyData.int) (ns := du) (v := (a : Int)) 10 rfl (pd_var 12 rfl) rfl (by omega) rfl) ?_
        refine bd_one (sd_set 11 (pd_add (pd_var 12 rfl) pd_int) ⟨?_, ?_⟩ sc_law.nd)
        · rw [e]; repeat (first | exact Le.nil | apply Le.eq | apply Le.un)
        · rw [e]; dsimp only; simp; omega
      · rw [isN_dO _ (by intro _; rfl)] at hk
        have e : dueStep rs m sl lim (du, (bn : Int)) a = (du, (bn : Int)) := by unfold dueStep; rw [if_neg (by rw [hk]; exact Bool.false_ne_true)]
        refine bd_nil ⟨?_, ?_⟩
        · rw [e]; repeat (first | exact Le.nil | apply Le.eq | apply Le.un)
        · rw [e]; dsimp only; omega
    · rintro r ⟨u, hu, hle⟩
      refine bd_le hle ?_
      have hdue : m_resets rs m sl lim = u.1 := by rw [hu]; exact resets_due m sl lim ok
      have hul : u.1.length < 100000 := by
        have := due_len rs m sl lim (List.range rs.length) ([], 0)
        rw [← hu] at this
        simp at this
        omega
      clear hle hu
      refine bd_guard (k := !true) (td_not (td_val (pd_call (c__law_same Y 1) hr .nil (ad_cons (pd_cast (congrArg (dL PyData.int) hdue) (pd_call (c_resets Y) hr .nil (ad_cons (pd_var 2 rfl) (ad_cons (pd_var 3 rfl) (ad_cons (pd_var 5 rfl) (ad_cons (pd_var 8 rfl) ad_nil)))) ⟨rs, m, sl, lim, rfl, ⟨⟨ok, by omega⟩, by omega⟩, rfl⟩)) (ad_cons (pd_thaw 10 rfl) ad_nil)) ⟨_, rfl, nice_ints hul, rfl⟩))) (fun h => nomatch h) (fun _ => ?_)
      exact bd_nil ⟨by repeat (first | exact Le.nil | apply Le.eq | apply Le.un), Aq5⟩
  rintro r ⟨q, hle⟩
  refine bd_le hle ?_
  clear hle
  -- rows
  refine bd_seq (sd_setN 13 (pn_lst ad_nil) rfl sc_law.nd) ?_
  refine bd_env (ρ' := [.d (dL PyData.int ns), .o none (.l (pl q)), .d (dL PyData.int rs), .d (PyData.int m), .d (PyData.int wd), .d (PyData.int sl), .d (PyData.int top), .un, .un, .un, .un, .un, .un, .ol (([] : List (Int × Int × Int)).map (dT3 PyData.int PyData.int PyData.int)), .un, .un, .un]) rfl ?_
  refine bd_cut (fun r => ∃ u : List (Int × Int × Int), u = (List.range rs.length).foldl (rowStep rs m) [] ∧ Le [.d (dL PyData.int ns), .o none (.l (pl q)), .d (dL PyData.int rs), .d (PyData.int m), .d (PyData.int wd), .d (PyData.int sl), .d (PyData.int top), .un, .un, .un, .un, .un, .un, .ol (u.map (dT3 PyData.int PyData.int PyData.int)), .un, .un, .un] r) (sd_forF (List.range rs.length) (fun i : Nat => PyData.int (i : Int)) (fun u : List (Int × Int × Int) => [.d (dL PyData.int ns), .o none (.l (pl q)), .d (dL PyData.int rs), .d (PyData.int m), .d (PyData.int wd), .d (PyData.int sl), .d (PyData.int top), .un, .un, .un, .un, .un, .un, .ol (u.map (dT3 PyData.int PyData.int PyData.int)), .un, .un, .un]) (rowStep rs m) [] (fun i u => u.length ≤ i) (passes_of rfl) rfl (id_range0 (n := rs.length) Y.z_range (pd_lenD (f := PyData.int) (ns := rs) Y.z_len (pd_var 2 rfl)) (by omega)) (by repeat (first | exact Le.nil | apply Le.eq | apply Le.un)) (Nat.le_refl _) (fun _ => trivial) (fun i u a ha hu pv => ⟨_, gd_name 7 sc_law.nd, ?_⟩) (fun u hu _ => ⟨u, hu, Le.refl _⟩)) ?_
  · have hia : a = i := by
      rw [List.getElem?_eq_some_iff] at ha
      obtain ⟨_, ha⟩ := ha
      rw [List.getElem_range] at ha
      exact ha.symm
    have hlt : a < rs.length := List.mem_range.mp (List.mem_of_getElem? ha)
    subst hia
    clear hu ha
    refine bd_env (ρ' := [.d (dL PyData.int ns), .o none (.l (pl q)), .d (dL PyData.int rs), .d (PyData.int m), .d (PyData.int wd), .d (PyData.int sl), .d (PyData.int top), .d (PyData.int (a : Int)), .un, .un, .un, .un, .un, .ol (u.map (dT3 PyData.int PyData.int PyData.int)), .un, .un, .un]) rfl ?_
    refine bd_seq (sd_set 14 (pd_ift PyData.int 1 (if decide (gI rs (a : Int) < m) = true then -1 else 0) (td_gt (pd_gixD (f := PyData.int) (ns := rs) (i := (a : Int)) ⟨by omega, by omega⟩ (pd_var 2 rfl) (pd_var 7 rfl)) (pd_var 3 rfl)) (fun _ => pd_int) (fun _ => pd_ift PyData.int (-1) 0 (td_lt (pd_gixD (f := PyData.int) (ns := rs) (i := (a : Int)) ⟨by omega, by omega⟩ (pd_var 2 rfl) (pd_var 7 rfl)) (pd_var 3 rfl)) (fun _ => pd_neg pd_int) (fun _ => pd_int))) rfl sc_law.nd) ?_
    have eS : rowStep rs m u a = (let side : Int := if decide (m < gI rs (a : Int)) = true then 1 else if decide (gI rs (a : Int) < m) = true then -1 else 0
      if (decide (0 < (u.length : Int)) && decide ((gI u ((u.length : Int) - 1)).2.2 = side)) = true then setI u ((u.length : Int) - 1) ((gI u ((u.length : Int) - 1)).1, (a : Int) + 1, side) else u ++ [((a : Int), (a : Int) + 1, side)]) := rfl
    dsimp only at eS
    generalize (if decide (m < gI rs (a : Int)) = true then (1 : Int) else if decide (gI rs (a : Int) < m) = true then -1 else 0) = sd at eS ⊢
    refine bd_env (ρ' := [.d (dL PyData.int ns), .o none (.l (pl q)), .d (dL PyData.int rs), .d (PyData.int m), .d (PyData.int wd), .d (PyData.int sl), .d (PyData.int top), .d (PyData.int (a : Int)), .un, .un, .un, .un, .un, .ol (u.map (dT3 PyData.int PyData.int PyData.int)), .d (PyData.int sd), .un, .un]) rfl ?_
    refine bd_one (sd_if (k := decide (0 < (u.length : Int)) && decide ((gI u ((u.length : Int) - 1)).2.2 = sd)) (td_w (wd_and (td_gt (pd_lenO (f := dT3 PyData.int PyData.int PyData.int) (ns := u) 13 Y.z_len rfl) pd_int) fun hw => wd_and1 (td_eqI (pd_ixT (i := 2) rfl (pd_gixO (f := dT3 PyData.int PyData.int PyData.int) (ns := u) (i := (u.length : Int) - 1) 13 rfl (pd_sub (pd_lenO (f := dT3 PyData.int PyData.int PyData.int) (ns := u) 13 Y.z_len rfl) pd_int) rfl (by have := of_decide_eq_true hw; omega)) pd_int) (pd_var 14 rfl)))) (fun hk => ?_) (fun hk => ?_))
    · rw [if_pos hk] at eS
      have h1 := of_decide_eq_true (Bool.and_eq_true_iff.mp hk).1
      refine bd_one (sd_setixM (f := dT3 PyData.int PyData.int PyData.int) (ns := u) (ix := (u.length : Int) - 1) (v := ((gI u ((u.length : Int) - 1)).1, (a : Int) + 1, sd)) 13 (pd_tup (ad_cons (pd_ixT (i := 0) rfl (pd_gixO (f := dT3 PyData.int PyData.int PyData.int) (ns := u) (i := (u.length : Int) - 1) 13 rfl (pd_sub (pd_lenO (f := dT3 PyData.int PyData.int PyData.int) (ns := u) 13 Y.z_len rfl) pd_int) rfl (by omega)) pd_int) (ad_cons (pd_add (pd_var 7 rfl) pd_int) (ad_cons (pd_var 14 rfl) ad_nil)))) rfl (pd_sub (pd_lenO (f := dT3 PyData.int PyData.int PyData.int) (ns := u) 13 Y.z_len rfl) pd_int) rfl (by omega) ⟨?_, ?_⟩)
      · rw [eS]; repeat (first | exact Le.nil | apply Le.eq | apply Le.un)
      · rw [eS, setI_len]; omega
    · rw [if_neg (by rw [hk]; exact Bool.false_ne_true)] at eS
      refine bd_one (sd_appendM (f := dT3 PyData.int PyData.int PyData.int) (ns := u) (v := ((a : Int), (a : Int) + 1, sd)) 13 rfl (pd_tup (ad_cons (pd_var 7 rfl) (ad_cons (pd_add (pd_var 7 rfl) pd_int) (ad_cons (pd_var 14 rfl) ad_nil)))) rfl (by omega) ⟨?_, ?_⟩)
      · rw [eS]; repeat (first | exact Le.nil | apply Le.eq | apply Le.un)
      · rw [eS]; simp; omega
  rintro r ⟨u, hu, hle⟩
  refine bd_le hle ?_
  clear hle
  have hul : u.length ≤ 400 := by rw [hu]; exact runs_len2 m ok.2
  have hrows : m_runs rs m = u := by rw [hu]; exact runs_rows m ok.2
  clear hu
  refine bd_guard (k := !true) (td_not (td_val (pd_call (c__law_same Y 2) hr .nil (ad_cons (pd_cast (congrArg (dL (dT3 PyData.int PyData.int PyData.int)) hrows) (pd_call (c_runs Y) hr .nil (ad_cons (pd_var 2 rfl) (ad_cons (pd_var 3 rfl) ad_nil)) ⟨rs, m, rfl, ok, rfl⟩)) (ad_cons (pd_thaw 13 rfl) ad_nil)) ⟨_, rfl, nice_rows (by omega), rfl⟩))) (fun h => nomatch h) (fun _ => ?_)
  refine bd_env (ρ' := [.d (dL PyData.int ns), .o none (.l (pl q)), .d (dL PyData.int rs), .d (PyData.int m), .d (PyData.int wd), .d (PyData.int sl), .d (PyData.int top), .un, .un, .un, .un, .un, .un, .d (dL (dT3 PyData.int PyData.int PyData.int) u), .un, .un, .un]) rfl ?_
  -- far
  refine bd_seq (sd_setLcD 15 (lcN (List.range 3) (fun i : Nat => PyData.int (i : Int)) PyData.int (fun _ : Nat => (1000000 : Int)) (blkOk_by (own := [("k", 7)]) (show blkC n_law (defScope s_law) _ _ = true by decide +kernel)) (id_range0 (n := 3) Y.z_range pd_int (by decide)) (by decide) (by intro _ h; cases h) trivial (fun k hk => ⟨_, _, (fun Z hZ => by obtain ⟨s1, H1, C1, cl1, fp1, rfl⟩ := hZ; exact (gv_name 7 (by decide) sc_law.nd)), (fun Z hZ => by obtain ⟨s1, H1, C1, cl1, fp1, rfl⟩ := hZ; exact pd_int), (by repeat (first | exact Le.nil | apply Le.eq | apply Le.un)), (by repeat (first | exact Le.nil | apply Le.eq | apply Le.un))⟩)) rfl sc_law.nd) ?_
  refine bd_env (ρ' := [.d (dL PyData.int ns), .o none (.l (pl q)), .d (dL PyData.int rs), .d (PyData.int m), .d (PyData.int wd), .d (PyData.int sl), .d (PyData.int top), .un, .un, .un, .un, .un, .un, .d (dL (dT3 PyData.int PyData.int PyData.int) u), .un, .d (dL PyData.int [1000000, 1000000, 1000000]), .un]) rfl ?_
  have okf : (∀ x ∈ ([1000000, 1000000, 1000000] : List Int), -1000000 ≤ x ∧ x ≤ 1000000) ∧ ([1000000, 1000000, 1000000] : List Int).length ≤ 400 := ⟨by intro x hx; simp at hx; omega, by decide⟩
  refine bd_guard (k := false || !true) (td_w (wd_or (td_cast (k := !isNone (dO PyData.int (m_least_slack [1000000, 1000000, 1000000] (-1000000) 5))) (by rw [far_none]; rfl) (td_notN (pd_call (c_least_slack Y) hr .nil (ad_cons (pd_var 15 rfl) (ad_cons (pd_neg pd_int) (ad_cons pd_int ad_nil))) ⟨_, -1000000, 5, rfl, ⟨okf, by decide⟩, rfl⟩))) fun _ => wd_or1 (td_not (td_val (pd_call (c__law_same Y 0) hr .nil (ad_cons (pd_cast (y := PyData.int 1000000) (by rw [far_some]; rfl) (pd_call (c_least_slack Y) hr .nil (ad_cons (pd_var 15 rfl) (ad_cons pd_int (ad_cons pd_int ad_nil))) ⟨_, 0, 0, rfl, ⟨okf, by decide⟩, rfl⟩)) (ad_cons pd_int ad_nil)) ⟨_, rfl, .int _, rfl⟩))))) (fun h => nomatch h) (fun _ => ?_)
  -- the longest run
  refine bd_one (sd_ret (pd_call (c__law_same Y 0) hr .nil (ad_cons (pd_call (c_longest_run Y) hr .nil (ad_cons (pd_var 2 rfl) (ad_cons (pd_var 3 rfl) ad_nil)) ⟨rs, m, rfl, ok, rfl⟩) (ad_cons (pd_cast (x := PyData.int (lmax ([0] ++ ((u.filter (fun (a : Int × Int × Int) => (!(decide (a.2.2 = 0))))).map (fun (a : Int × Int × Int) => a.2.1 - a.1))))) (y := PyData.int (m_longest_run rs m)) (by rw [m_longest_run, hrows]) (pd_maxD (ns := [0] ++ ((u.filter (fun (a : Int × Int × Int) => (!(decide (a.2.2 = 0))))).map (fun (a : Int × Int × Int) => a.2.1 - a.1))) rfl Y.z_max (by simp) (pd_n (pn_catM (f := PyData.int) (ns := [0]) (ms := ((u.filter (fun (a : Int × Int × Int) => (!(decide (a.2.2 = 0))))).map (fun (a : Int × Int × Int) => a.2.1 - a.1))) (pq_d (pd_n (pn_lst (ad_cons pd_int ad_nil)))) srcN (pq_d (pd_n (pn_lc (lcM u (dT3 PyData.int PyData.int PyData.int) PyData.int (fun (a : Int × Int × Int) => (!(decide (a.2.2 = 0)))) (fun (a : Int × Int × Int) => a.2.1 - a.1) (blkOk_by (own := [("row", 16)]) (show blkC n_law (defScope s_law) _ _ = true by decide +kernel)) (id_listD (f := dT3 PyData.int PyData.int PyData.int) (ns := u) (pd_var 13 rfl)) (by omega) (by intro _ h; cases h) trivial (fun a ha => ⟨_, _, (fun Z hZ => by obtain ⟨s1, H1, C1, cl1, fp1, rfl⟩ := hZ; exact (gv_name 16 (by decide) sc_law.nd)), (fun Z hZ => by obtain ⟨s1, H1, C1, cl1, fp1, rfl⟩ := hZ; exact (tsd_one (td_neI (pd_ixT (i := 2) rfl (pd_var 16 rfl) pd_int) pd_int))), (fun Z hZ _ => by obtain ⟨s1, H1, C1, cl1, fp1, rfl⟩ := hZ; exact (pd_sub (pd_ixT (i := 1) rfl (pd_var 16 rfl) pd_int) (pd_ixT (i := 0) rfl (pd_var 16 rfl) pd_int))), (by repeat (first | exact Le.nil | apply Le.eq | apply Le.un)), (by repeat (first | exact Le.nil | apply Le.eq | apply Le.un))⟩)) sc_law.nd))) srcN (by have := List.length_filter_le (fun (a : Int × Int × Int) => (!(decide (a.2.2 = 0)))) u; simp; omega)))) ) ad_nil)) ⟨_, rfl, .int _, rfl⟩) rfl)
end
end GP

namespace GP
open PySem PySem.Spec PyProof.Rows L2 G

theorem law_fin {P : Program} {w : World} {K : PySem.W.Frag} {h : Heap} {mg : Str → Option Value} {fa : Addr} (X : K.In h) (G : h.Ns mainGlobals mg) (hfa : mg ("law" : Str) = some (.ref fa)) (c : He.SaysD fA fn K) :
    ∃ (K : PySem.W.Frag) (fd : FuncData) (sp : Sp), K.In h ∧ (∀ (s : Shared) (u : Value), BindsTo s fd ⟨[u], []⟩ [("script", u)]) ∧
        (∀ (H : Hp) (a : Addr) (ns : List Int), ns.length ≤ 63 → Only H → SqL K H a (ns.map V.int) → sp [.ref a] H (fun v _ => v = .bl true) fun _ _ _ => False) ∧
        ∀ base : Heap, K.In base → base.Ns mainGlobals mg → FnOk P w K mg base CX0 20 fa fd ["script"] sp := by
  have Y := py_of X G c
  obtain ⟨fd, F⟩ := Y.d_law
  have e := hfa.symm.trans Y.g_law
  cases e
  have b := FunD.bindsA (ps := ["script"]) F fun _ _ _ _ _ _ us hl => match us, hl with | [_], _ => rfl
  exact ⟨K, fd, fun vs H Q _ => spD K LawS vs H Q E0, X, fun s v => b s [v] rfl, fun H a ns hl _ hS => law_end H a ns hl hS, fun base _ _ => fn_shut (law_fn F Y)⟩
def loose0 : List Str := [("GrainError" : Str), ("InvalidNumber" : Str), ("TooMany" : Str), ("GREATEST" : Str), ("is_number" : Str), ("checked_number" : Str), ("MOST" : Str), ("FAR" : Str), ("checked_readings" : Str), ("sums" : Str), ("low_sums" : Str), ("first_alarm" : Str), ("least_limit" : Str), ("least_slack" : Str), ("resets" : Str), ("runs" : Str), ("longest_run" : Str), ("_law_same" : Str), ("_law_pool" : Str), ("_law_draw" : Str), ("_law_pick" : Str), ("_law_readings" : Str), ("_law_sums" : Str), ("_law_excess" : Str), ("_law_alarm" : Str)]
abbrev hk : PySem.W.Hook := He.hookD 4 fA fn
def ob (s : PySem.W.SharedT) : He.AlD := He.obsDG 4 fA fn (HandSHeadRun.getT s)
theorem ob_eq (s : PySem.W.SharedT) : ob s = hk.obs s.abs := He.obsDG_eq (HandSHeadRun.getT_eq s)
theorem run (w : World) : HandSHeadRun.RunEq (PySem.W.OpenLaw.row PySem.Challenge.rw_grainhaul_k70_slack_resets_and_runs) (PySem.W.view (PySem.W.OpenLaw.row PySem.Challenge.rw_grainhaul_k70_slack_resets_and_runs).prog [29]) hk ob 3000 (loose0) w := by
  intro os
  kernel_rfl
end GP
open PySem PySem.W PySem.Calls PyProof.Rows
set_option maxHeartbeats 0 in
theorem PySem.Challenge.cw_grainhaul_k70_slack_resets_and_runs_holds : PySem.Challenge.rw_grainhaul_k70_slack_resets_and_runs.Holds := by
  w_on; o_law
  refine HandSHeadRun.head_any (r := OpenLaw.row PySem.Challenge.rw_grainhaul_k70_slack_resets_and_runs) (q := view (OpenLaw.row PySem.Challenge.rw_grainhaul_k70_slack_resets_and_runs).prog [29]) (H := GP.hk) (ob := GP.ob) (M := 3000) (loose := GP.loose0) (d := HandSHeadRun.topDef (OpenLaw.row PySem.Challenge.rw_grainhaul_k70_slack_resets_and_runs).prog 29) (kwd := []) GP.ob_eq
    (by kernel_rfl) (fun s => by kernel_rfl) GP.run (by kernel_rfl) (by kernel_rfl) (by kernel_rfl) (by rfl) (by first | assumption | decide +kernel) (by decide +kernel) ⟨rfl, rfl, rfl, rfl, rfl, by decide +kernel⟩ ?hw ?hc
  case hw => w_witness2
  case hc =>
    refine L2.walk_ofE (l := PySem.Challenge.rw_grainhaul_k70_slack_resets_and_runs) (n := 63) (k := 20) (x := "script") (CX := L2.CX0) rfl (by decide) (by kernel_rfl) ⟨rfl, by decide, by decide⟩ ?F (fun _ _ _ _ z => z)
    intro w mg fa h Y G hmg0
    obtain ⟨K, KX, c⟩ := Y
    have hmg : mg ("law" : PySem.Str) = some (.ref fa) := by
      have e : (HandSHeadRun.topDef (OpenLaw.row PySem.Challenge.rw_grainhaul_k70_slack_resets_and_runs).prog 29).name = ("law" : PySem.Str) := by kernel_rfl
      rw [← e]
      exact hmg0
    exact GP.law_fin (w := w) KX G hmg c
