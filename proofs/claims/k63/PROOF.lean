import PyProof.Rows.All
import Wide.All
import OpenK.AllK
import Wide.FinOn
import HandS.ForMost
import HandS.Exc
import HandS.ExcOwn
import HandS.TryOnly
import HandS.WordsExc
import HandS.CallSlots
import HandS.Walk
import HandS.Defaults
import HandS.ExcCtx
import HandS.IsInst
import HandS.Wide
import HandS.Head0
import HandS.Head1
import HandS.Head2
import HandS.HeadEnd
import HandS.HeadHook1
import HandS.HeadHook2
import HandS.HeadHook4
import HandS.ExcIs
import HandS.RaiseMore
import HandS.HotCalls
import HandS.SortInts
import HandS.Rev
import HandS.More
import HandS.Deep
import HandS.TupLe
import HandS.Style
import PyProof.Rows.IntBool
import HandS.WordsDict
import HandS.TupLen
import HandS.Conv
import KE.SortData
import KE.DataFind
import HandS.TupAny
import HandS.Iter
import PyProof.SumAnyB
import HandS.Text
import HandS.Gcd
import HandS.ExcInit
import KE.KExcSuper
import KE.KExcMake
import HandS.ExcField
import PyProof.Rows.TupDisplay
import KE.IntTextLaws
import PyProof.StrLawsChain
import HandS.SetKeys
import HandS.SetBool
import KE.KStateDown
import PySem.Challenge.RW_grainhaul_k63_ledgers_add_up
set_option Elab.async false
set_option linter.all false
set_option maxRecDepth 100000
set_option maxHeartbeats 4000000
/-! GBase: data read off a frozen part of the heap, what a body owns, and what code evaluates to in such words. -/
namespace G
open PySem PySem.Spec PyProof.Rows L2

/-- what stood stands -/
def Ex (H H' : Hp) : Prop := ∀ a o, H a = some o → H' a = some o
theorem Ex.refl (H : Hp) : Ex H H := fun _ _ h => h
theorem Ex.trans {H H1 H2 : Hp} (a : Ex H H1) (b : Ex H1 H2) : Ex H H2 := fun x o h => b x o (a x o h)
theorem Ex.new {H : Hp} {p : Addr} {o : HO} (h : H p = none) : Ex H (upd H p o) := fun a u e => by
  rw [upd_ne (ne_of_none e h)]; exact e
theorem Ex.rd {H H' : Hp} {a : Addr} {u : HO} (e : Ex H H') (h : Rd H a u) : Rd H' a u := by
  rcases h with h | ⟨o, h⟩
  · exact Or.inl (e a _ h)
  · exact Or.inr ⟨o, e a _ h⟩
theorem Ex.l {K : PySem.W.Frag} {H H' : Hp} {a : Addr} {xs : List V} (e : Ex H H') (h : SqL K H a xs) : SqL K H' a xs := by
  rcases h with h | h
  · exact Or.inl (e.rd h)
  · exact Or.inr h
theorem Ex.t {K : PySem.W.Frag} {H H' : Hp} {a : Addr} {xs : List V} (e : Ex H H') (h : SqT K H a xs) : SqT K H' a xs := by
  rcases h with h | h
  · exact Or.inl (e.rd h)
  · exact Or.inr h
theorem Ex.none {H H' : Hp} {p : Addr} (e : Ex H H') (h : H' p = none) : H p = none := by
  cases h1 : H p with
  | none => rfl
  | some o => rw [e p o h1] at h; cases h

/-! ### data -/
/-- a key as data -/
def kD : Key → PyData
  | .inl i => .int i
  | .inr x => .str x
def kDs (k : List Key) : PyData := .tuple (k.map kD)
mutual
/-- the value v reads as the data d, off the heap F -/
inductive Rp (K : PySem.W.Frag) (F : Hp) : V → PyData → Prop
  | non : Rp K F .non .none
  | bl (b : Bool) : Rp K F (.bl b) (.bool b)
  | int (i : Int) : Rp K F (.int i) (.int i)
  | str (x : Str) : Rp K F (.str x) (.str x)
  | lst {a : Addr} {xs : List V} {ds : List PyData} : SqL K F a xs → RpA K F xs ds → Rp K F (.ref a) (.list ds)
  | tup {a : Addr} {xs : List V} {ds : List PyData} : F a = some (.tup xs) → RpA K F xs ds → Rp K F (.ref a) (.tuple ds)
  | dK {a : Addr} {o : Obj} {kvs : List (Key × V)} {ds : List PyData} : F a = some (.frz o (.dK kvs)) → RpA K F (kvs.map (·.2)) ds → Rp K F (.ref a) (.dict ((kvs.map fun p => kD p.1).zip ds))
  | dT {a : Addr} {o : Obj} {kvs : List (List Key × V)} {ds : List PyData} : F a = some (.frz o (.dT kvs)) → kvs ≠ [] → RpA K F (kvs.map (·.2)) ds → Rp K F (.ref a) (.dict ((kvs.map fun p => kDs p.1).zip ds))
inductive RpA (K : PySem.W.Frag) (F : Hp) : List V → List PyData → Prop
  | nil : RpA K F [] []
  | cons {v : V} {vs : List V} {d : PyData} {ds : List PyData} : Rp K F v d → RpA K F vs ds → RpA K F (v :: vs) (d :: ds)
end
section
variable {K : PySem.W.Frag} {F F' : Hp}
mutual
theorem Rp.mono (e : Ex F F') : ∀ {v : V} {d : PyData}, Rp K F v d → Rp K F' v d
  | _, _, .non => .non
  | _, _, .bl b => .bl b
  | _, _, .int b => .int b
  | _, _, .str b => .str b
  | _, _, .lst h r => .lst (e.l h) (RpA.mono e r)
  | _, _, .tup h r => .tup (e _ _ h) (RpA.mono e r)
  | _, _, .dK h r => .dK (e _ _ h) (RpA.mono e r)
  | _, _, .dT h n r => .dT (e _ _ h) n (RpA.mono e r)
theorem RpA.mono (e : Ex F F') : ∀ {vs : List V} {ds : List PyData}, RpA K F vs ds → RpA K F' vs ds
  | _, _, .nil => .nil
  | _, _, .cons h r => .cons (Rp.mono e h) (RpA.mono e r)
end
theorem RpA.length : ∀ {vs : List V} {ds : List PyData}, RpA K F vs ds → vs.length = ds.length
  | _, _, .nil => rfl
  | _, _, .cons _ r => by rw [List.length_cons, List.length_cons, RpA.length r]
theorem RpA.get : ∀ {vs : List V} {ds : List PyData} {i : Nat} {d : PyData}, RpA K F vs ds → ds[i]? = some d → ∃ v, vs[i]? = some v ∧ Rp K F v d
  | _, _, _, _, .nil, e => by simp at e
  | _, _, 0, _, .cons h _, e => by simp at e; subst e; exact ⟨_, rfl, h⟩
  | _, _, i + 1, d, .cons _ r, e => by
    obtain ⟨v, a, b⟩ := RpA.get (i := i) (d := d) r (by simpa using e)
    exact ⟨v, by simpa using a, b⟩
theorem RpA.getV : ∀ {vs : List V} {ds : List PyData} {i : Nat} {v : V}, RpA K F vs ds → vs[i]? = some v → ∃ d, ds[i]? = some d ∧ Rp K F v d
  | _, _, _, _, .nil, e => by simp at e
  | _, _, 0, _, .cons h _, e => by simp at e; subst e; exact ⟨_, rfl, h⟩
  | _, _, i + 1, d, .cons _ r, e => by
    obtain ⟨v, a, b⟩ := RpA.getV (i := i) (v := d) r (by simpa using e)
    exact ⟨v, by simpa using a, b⟩
theorem RpA.append : ∀ {vs ws : List V} {ds es : List PyData}, RpA K F vs ds → RpA K F ws es → RpA K F (vs ++ ws) (ds ++ es)
  | _, _, _, _, .nil, s => s
  | _, _, _, _, .cons h r, s => .cons h (RpA.append r s)
theorem RpA.take : ∀ {vs : List V} {ds : List PyData} (n : Nat), RpA K F vs ds → RpA K F (vs.take n) (ds.take n)
  | _, _, 0, _ => .nil
  | _, _, _ + 1, .nil => .nil
  | _, _, n + 1, .cons h r => .cons h (RpA.take n r)
theorem RpA.drop : ∀ {vs : List V} {ds : List PyData} (n : Nat), RpA K F vs ds → RpA K F (vs.drop n) (ds.drop n)
  | _, _, 0, r => r
  | _, _, _ + 1, .nil => .nil
  | _, _, n + 1, .cons _ r => RpA.drop n r
theorem RpA.set : ∀ {vs : List V} {ds : List PyData} (i : Nat) {v : V} {d : PyData}, RpA K F vs ds → Rp K F v d → RpA K F (vs.set i v) (ds.set i d)
  | _, _, _, _, _, .nil, _ => .nil
  | _, _, 0, _, _, .cons _ r, x => .cons x r
  | _, _, i + 1, _, _, .cons h r, x => .cons h (RpA.set i r x)
theorem RpA.reverse : ∀ {vs : List V} {ds : List PyData}, RpA K F vs ds → RpA K F vs.reverse ds.reverse
  | _, _, .nil => .nil
  | _, _, .cons h r => by rw [List.reverse_cons, List.reverse_cons]; exact RpA.append (RpA.reverse r) (.cons h .nil)
theorem RpA.ints : ∀ (ns : List Int), RpA K F (ns.map V.int) (ns.map PyData.int)
  | [] => .nil
  | n :: ns => .cons (.int n) (RpA.ints ns)
theorem RpA.ints_inv : ∀ {vs : List V} {ns : List Int}, RpA K F vs (ns.map PyData.int) → vs = ns.map V.int
  | _, [], h => by cases h; rfl
  | _, n :: ns, h => by
    rw [List.map_cons] at h
    cases h with
    | cons a b => cases a; rw [RpA.ints_inv b]; rfl
theorem RpA.bls_inv : ∀ {vs : List V} {ns : List Bool}, RpA K F vs (ns.map PyData.bool) → vs = ns.map V.bl
  | _, [], h => by cases h; rfl
  | _, n :: ns, h => by
    rw [List.map_cons] at h
    cases h with
    | cons a b => cases a; rw [RpA.bls_inv b]; rfl
theorem RpA.strs_inv : ∀ {vs : List V} {ns : List Str}, RpA K F vs (ns.map PyData.str) → vs = ns.map V.str
  | _, [], h => by cases h; rfl
  | _, n :: ns, h => by
    rw [List.map_cons] at h
    cases h with
    | cons a b => cases a; rw [RpA.strs_inv b]; rfl
end

/-! ### what a slot holds -/
/-- what stands at an address that is the body's own: a list, a dict (keys ints and texts; tuples of them) -/
inductive Ct where
  | l (xs : List PyData)
  | d (kvs : List (Key × PyData))
  | t (kvs : List (List Key × PyData))
  | n (C : Addr) (fs : List (Str × V))
  | g (p : Addr) (c : Ct)
  | f (od : Obj) (u : HO) (c : Ct)
/-- un: nothing is said; d: data; v: just this value; o: an object of the body's own (its address, if it is told) -/
inductive Sl where
  | un
  | d (x : PyData)
  | v (x : V)
  | o (p : Option Addr) (c : Ct)
abbrev En := List Sl
abbrev Sl.ol (xs : List PyData) : Sl := .o none (.l xs)
abbrev Sl.od (kvs : List (Key × PyData)) : Sl := .o none (.d kvs)
abbrev Sl.ot (kvs : List (List Key × PyData)) : Sl := .o none (.t kvs)

def KvA {κ : Type} (K : PySem.W.Frag) (F : Hp) (kvs : List (κ × V)) (ds : List (κ × PyData)) : Prop := kvs.map (·.1) = ds.map (·.1) ∧ RpA K F (kvs.map (·.2)) (ds.map (·.2))
theorem KvA.mono {κ : Type} {K : PySem.W.Frag} {F F' : Hp} {kvs : List (κ × V)} {ds : List (κ × PyData)} (e : Ex F F') (h : KvA K F kvs ds) : KvA K F' kvs ds := ⟨h.1, h.2.mono e⟩

/-- a dict that stands for a content -/
def HoIs (K : PySem.W.Frag) (F : Hp) (u : HO) (c : Ct) : Prop :=
  match u, c with
  | .dK kvs, .d ds => KvA K F kvs ds
  | .dT kvs, .t ds => KvA K F kvs ds
  | _, _ => False
theorem HoIs.mono {K : PySem.W.Frag} {F F' : Hp} (e : Ex F F') {u : HO} {c : Ct} (h : HoIs K F u c) : HoIs K F' u c := by
  unfold HoIs at h ⊢
  split at h
  · exact h.mono e
  · exact h.mono e
  · exact h.elim
/-- what stands at an owned address -/
def Own1 (K : PySem.W.Frag) (F H : Hp) (l : Addr) : Ct → Prop
  | .l xs => ∃ vs, H l = some (.lst vs) ∧ RpA K F vs xs
  | .d ds => ∃ kvs, H l = some (.dK kvs) ∧ KvA K F kvs ds
  | .t ds => ∃ kvs, H l = some (.dT kvs) ∧ KvA K F kvs ds
  | .n C fs => ∃ dx, H l = some (.ins C dx fs)
  | .g p c => l = p ∧ Own1 K F H l c
  | .f od u c => H l = some (.frz od u) ∧ HoIs K F u c
def SlOk (K : PySem.W.Frag) (F H : Hp) (o : Option V) (s : Sl) : Prop :=
  match s with
  | .un => True
  | .d x => ∃ v, o = some v ∧ Rp K F v x
  | .v x => o = some x
  | .o p c => ∃ l, o = some (.ref l) ∧ (p = none ∨ p = some l) ∧ Own1 K F H l c
def Sl.isOwn : Sl → Bool
  | .o _ _ => true
  | _ => false
/-- the addresses that a slot owns -/
def Owns (σ : L2.St) (ρ : En) (i : Nat) (a : Addr) : Prop := σ[i]? = some (some (.ref a)) ∧ ∃ s, ρ[i]? = some s ∧ s.isOwn = true

/-- not frozen, or a tuple -/
def Nt (F : Hp) (a : Addr) : Prop := F a = none ∨ ∃ xs, F a = some (.tup xs)
theorem Nt.mono {F F' : Hp} {a : Addr} (x : Ex F F') (h : Nt F a) (k : F a = none → Nt F' a) : Nt F' a := by
  rcases h with h | ⟨xs, h⟩
  · exact k h
  · exact .inr ⟨xs, x _ _ h⟩
/-- the entry: the frozen heap, the heap, what may be changed of it -/
structure Cn where
  F0 : Hp
  H0 : Hp
  M : List Addr
/-- what holds of F and H through the body -/
structure Fr (C : Cn) (F H : Hp) : Prop where
  ext : Ex F H
  f0 : Ex C.F0 F
  h0 : ∀ a o, C.H0 a = some o → a ∉ C.M → H a = some o
  there : ∀ a, H a = none → C.H0 a = none
  new : ∀ a, C.H0 a ≠ none → C.F0 a = none → Nt F a
  mM : ∀ a ∈ C.M, C.H0 a ≠ none
structure SE (K : PySem.W.Frag) (C : Cn) (F H : Hp) (σ : L2.St) (ρ : En) : Prop where
  fr : Fr C F H
  len : σ.length = ρ.length
  ok : ∀ (i : Nat) (s : Sl), ρ[i]? = some s → SlOk K F H (σ[i]?.join) s
  sep : ∀ (i j : Nat) (a : Addr), Owns σ ρ i a → Owns σ ρ j a → i = j
  own : ∀ (i : Nat) (a : Addr), Owns σ ρ i a → F a = none ∧ H a ≠ none ∧ (C.H0 a = none ∨ a ∈ C.M)
  fresh : ∀ (i : Nat) (a : Addr) (c : Ct), ρ[i]? = some (.o none c) → σ[i]? = some (some (.ref a)) → C.H0 a = none

/-! ### growth -/
/-- F and H grow by new objects -/
structure Gr (F H F' H' : Hp) : Prop where
  f : Ex F F'
  h : Ex H H'
  fh : Ex F' H'
  new : ∀ a, H a ≠ none → F a = none → Nt F' a
theorem Gr.refl {F H : Hp} (e : Ex F H) : Gr F H F H := ⟨.refl _, .refl _, e, fun _ _ h => .inl h⟩
theorem Gr.trans {F H F1 H1 F2 H2 : Hp} (a : Gr F H F1 H1) (b : Gr F1 H1 F2 H2) : Gr F H F2 H2 :=
  ⟨a.f.trans b.f, a.h.trans b.h, b.fh, fun x hx fx => (a.new x hx fx).mono b.f (b.new x (fun z => hx (a.h.none z)))⟩
theorem ne_none {H : Hp} {a : Addr} {o : HO} (h : H a = some o) : H a ≠ none := by rw [h]; exact fun z => nomatch z
theorem some_of {H : Hp} {a : Addr} (h : H a ≠ none) : ∃ o, H a = some o := by
  cases e : H a with
  | none => exact absurd e h
  | some o => exact ⟨o, rfl⟩
theorem ex_upd {F H : Hp} {p : Addr} {o : HO} (e : Ex F H) : Ex (upd F p o) (upd H p o) := fun a u h => by
  by_cases q : a = p
  · rw [q, upd_same] at h ⊢; exact h
  · rw [upd_ne q] at h ⊢; exact e a u h
/-- a new frozen object -/
theorem Gr.push {F H : Hp} {p : Addr} {o : HO} (e : Ex F H) (hp : H p = none) : Gr F H (upd F p o) (upd H p o) :=
  ⟨.new (e.none hp), .new hp, ex_upd e, fun a ha fa => .inl (by rw [upd_ne (fun z => ha (by rw [z]; exact hp))]; exact fa)⟩
/-- a new object, not frozen -/
theorem Gr.side {F H : Hp} {p : Addr} {o : HO} (e : Ex F H) (hp : H p = none) : Gr F H F (upd H p o) :=
  ⟨.refl _, .new hp, e.trans (.new hp), fun _ _ h => .inl h⟩
section
variable {K : PySem.W.Frag} {C : Cn} {F H F' H' : Hp} {σ : L2.St} {ρ : En}
theorem Fr.grow (f : Fr C F H) (g : Gr F H F' H') : Fr C F' H' :=
  ⟨g.fh, f.f0.trans g.f, fun a o h m => g.h a o (f.h0 a o h m), fun a h => f.there a (g.h.none h), fun a h z => (f.new a h z).mono g.f (g.new a (fun q => h (f.there a q))), f.mM⟩
theorem Own1.grow {l : Addr} {s : Ct} (x : Ex F F') (h2 : ∀ o, H l = some o → H' l = some o) (h : Own1 K F H l s) : Own1 K F' H' l s := by
  induction s with
  | l xs => obtain ⟨vs, a, b⟩ := h; exact ⟨vs, h2 _ a, b.mono x⟩
  | d xs => obtain ⟨vs, a, b⟩ := h; exact ⟨vs, h2 _ a, b.mono x⟩
  | t xs => obtain ⟨vs, a, b⟩ := h; exact ⟨vs, h2 _ a, b.mono x⟩
  | n C fs => obtain ⟨dx, a⟩ := h; exact ⟨dx, h2 _ a⟩
  | g p c ih => exact ⟨h.1, ih h.2⟩
  | f od u c ih => exact ⟨h2 _ h.1, h.2.mono x⟩
theorem Own1.some {l : Addr} {s : Ct} (h : Own1 K F H l s) : H l ≠ none := by
  induction s with
  | l xs => obtain ⟨vs, a, b⟩ := h; exact ne_none a
  | d xs => obtain ⟨vs, a, b⟩ := h; exact ne_none a
  | t xs => obtain ⟨vs, a, b⟩ := h; exact ne_none a
  | n C fs => obtain ⟨dx, a⟩ := h; exact ne_none a
  | g p c ih => exact ih h.2
  | f od u c ih => exact ne_none h.1
theorem Own1.nt {l : Addr} {s : Ct} (h : Own1 K F H l s) (xs : List V) : H l ≠ Option.some (.tup xs) := fun z => by
  induction s with
  | l xs => obtain ⟨vs, a, b⟩ := h; rw [a] at z; cases z
  | d xs => obtain ⟨vs, a, b⟩ := h; rw [a] at z; cases z
  | t xs => obtain ⟨vs, a, b⟩ := h; rw [a] at z; cases z
  | n C fs => obtain ⟨dx, a⟩ := h; rw [a] at z; cases z
  | g p c ih => exact ih h.2
  | f od u c ih => rw [h.1] at z; cases z
theorem SlOk.grow {o : Option V} {s : Sl} (x : Ex F F') (h2 : ∀ l u, o = .some (.ref l) → s.isOwn = true → H l = .some u → H' l = .some u) (h : SlOk K F H o s) : SlOk K F' H' o s := by
  cases s with
  | un => exact h
  | d x' => obtain ⟨v, a, b⟩ := h; exact ⟨v, a, b.mono x⟩
  | v x' => exact h
  | o p c => obtain ⟨l, a, p', b⟩ := h; exact ⟨l, a, p', b.grow x (fun u => h2 l u a rfl)⟩
theorem SE.nt (e : SE K C F H σ ρ) {i : Nat} {a : Addr} (h : Owns σ ρ i a) (xs : List V) : H a ≠ some (.tup xs) := by
  obtain ⟨h1, s, h2, h3⟩ := h
  have h4 := e.ok i s h2
  cases s with
  | o p c =>
    obtain ⟨l, q, _, q2⟩ := h4
    rw [h1] at q
    cases q
    exact q2.nt xs
  | _ => cases h3
theorem Nt.none {F H : Hp} {a : Addr} (h : Nt F a) (e : Ex F H) (n : ∀ xs, H a ≠ some (.tup xs)) : F a = none := by
  rcases h with h | ⟨xs, h⟩
  · exact h
  · exact absurd (e _ _ h) (n xs)
theorem SE.grow (e : SE K C F H σ ρ) (g : Gr F H F' H') : SE K C F' H' σ ρ :=
  ⟨e.fr.grow g, e.len, fun i s h => (e.ok i s h).grow g.f (fun _ _ _ _ q => g.h _ _ q), e.sep, fun i a h => by
    obtain ⟨x, y, z⟩ := e.own i a h
    obtain ⟨o, ho⟩ := some_of y
    exact ⟨(g.new a y x).none g.fh (fun xs q => e.nt h xs (by rw [g.h a o ho] at q; rw [ho, q])), fun q => y (g.h.none q), z⟩, e.fresh⟩

/-! ### slots read and set -/
theorem set_at {α : Type} {l : List α} {i : Nat} {x y : α} (h : (l.set i x)[i]? = some y) : x = y ∧ i < l.length := by
  rw [List.getElem?_set, if_pos rfl] at h
  split at h
  · rename_i q; exact ⟨Option.some.inj h, q⟩
  · cases h
theorem join_some {α : Type} {x : Option (Option α)} {v : α} (h : x.join = some v) : x = some (some v) := by
  cases x with
  | none => cases h
  | some o => exact congrArg some h
theorem SE.get (e : SE K C F H σ ρ) {i : Nat} {x : PyData} (h : ρ[i]? = some (.d x)) : ∃ v, σ[i]? = some (some v) ∧ Rp K F v x := by
  obtain ⟨v, a, b⟩ := e.ok i _ h
  exact ⟨v, join_some a, b⟩
theorem SE.getO (e : SE K C F H σ ρ) {i : Nat} {p : Option Addr} {c : Ct} (h : ρ[i]? = some (.o p c)) : ∃ l, σ[i]? = some (some (.ref l)) ∧ (p = none ∨ p = some l) ∧ Own1 K F H l c ∧ Owns σ ρ i l := by
  obtain ⟨l, a, b, d⟩ := e.ok i _ h
  exact ⟨l, join_some a, b, d, join_some a, _, h, rfl⟩
theorem own_set {i j : Nat} {o : Option V} {s : Sl} {a : Addr} (h : Owns (σ.set i o) (ρ.set i s) j a) : (j = i ∧ o = some (.ref a) ∧ s.isOwn = true) ∨ (j ≠ i ∧ Owns σ ρ j a) := by
  obtain ⟨h1, t, h2, h3⟩ := h
  by_cases q : j = i
  · subst q
    exact .inl ⟨rfl, (set_at h1).1, by rw [(set_at h2).1]; exact h3⟩
  · rw [List.getElem?_set_ne (Ne.symm q)] at h1 h2
    exact .inr ⟨q, h1, t, h2, h3⟩
theorem SE.set (e : SE K C F H σ ρ) {i : Nat} {v : V} {s : Sl} (h : SlOk K F H (some v) s) (hn : s.isOwn = true → ∀ a, v = .ref a → F a = none ∧ H a ≠ none ∧ (C.H0 a = none ∨ a ∈ C.M) ∧ (∀ j, j ≠ i → ¬ Owns σ ρ j a) ∧ (∀ c, s = .o none c → C.H0 a = none)) : SE K C F H (σ.set i (some v)) (ρ.set i s) := by
  refine ⟨e.fr, by rw [List.length_set, List.length_set, e.len], fun j t ht => ?_, fun j k a hj hk => ?_, fun j a hj => ?_, fun j a c h1 h2 => ?_⟩
  · by_cases q : j = i
    · subst q
      obtain ⟨rfl, hj⟩ := set_at ht
      rw [List.getElem?_set, if_pos rfl, if_pos (by rw [e.len]; exact hj)]
      exact h
    · rw [List.getElem?_set_ne (Ne.symm q)] at ht ⊢
      exact e.ok j t ht
  · rcases own_set hj with ⟨rfl, o1, s1⟩ | ⟨n1, o1⟩ <;> rcases own_set hk with ⟨rfl, o2, s2⟩ | ⟨n2, o2⟩
    · rfl
    · exact absurd o2 ((hn s1 a (Option.some.inj o1)).2.2.2.1 k n2)
    · exact absurd o1 ((hn s2 a (Option.some.inj o2)).2.2.2.1 j n1)
    · exact e.sep j k a o1 o2
  · rcases own_set hj with ⟨rfl, o1, s1⟩ | ⟨n1, o1⟩
    · exact ⟨(hn s1 a (Option.some.inj o1)).1, (hn s1 a (Option.some.inj o1)).2.1, (hn s1 a (Option.some.inj o1)).2.2.1⟩
    · exact e.own j a o1
  · by_cases q : j = i
    · subst q
      obtain ⟨q1, _⟩ := set_at h1
      obtain ⟨q2, _⟩ := set_at h2
      exact (hn (by rw [q1]; rfl) a (Option.some.inj q2)).2.2.2.2 c q1
    · rw [List.getElem?_set_ne (Ne.symm q)] at h1 h2
      exact e.fresh j a c h1 h2
theorem SE.setD (e : SE K C F H σ ρ) {i : Nat} {v : V} {x : PyData} (h : Rp K F v x) : SE K C F H (σ.set i (some v)) (ρ.set i (.d x)) :=
  e.set ⟨v, rfl, h⟩ fun z => nomatch z
theorem SE.setU (e : SE K C F H σ ρ) {i : Nat} {v : V} : SE K C F H (σ.set i (some v)) (ρ.set i .un) := e.set trivial fun z => nomatch z
/-- a name is given a new object -/
theorem SE.setOwn (e : SE K C F H σ ρ) {i : Nat} {c : Ct} {p : Addr} (fp : F p = none) (h0 : C.H0 p = none) (no : ∀ j, ¬ Owns σ ρ j p) (h : Own1 K F H p c) : SE K C F H (σ.set i (some (.ref p))) (ρ.set i (.o none c)) :=
  e.set ⟨p, rfl, .inl rfl, h⟩ fun _ a q => by
    cases q
    exact ⟨fp, h.some, .inl h0, fun j _ o => no j o, fun _ _ => h0⟩
theorem slot_own {s : Sl} {j : Nat} {b : Addr} (h : ρ[j]? = some s) (o : s.isOwn = true) (c : σ[j]? = some (some (.ref b))) : Owns σ ρ j b := ⟨c, s, h, o⟩
/-- an owned object has changed -/
theorem SE.wr (e : SE K C F H σ ρ) {i : Nat} {l : Addr} {p : Option Addr} {c c' : Ct} {o : HO} (hi : ρ[i]? = some (.o p c)) (hl : σ[i]? = some (some (.ref l))) (h : Own1 K F (L2.upd H l o) l c') : SE K C F (L2.upd H l o) σ (ρ.set i (.o p c')) := by
  have ow : Owns σ ρ i l := ⟨hl, _, hi, rfl⟩
  obtain ⟨w1, w2, w3⟩ := e.own i l ow
  have hp : p = none ∨ p = some l := by
    obtain ⟨l', a, b, _⟩ := e.getO hi
    rw [hl] at a
    cases a
    exact b
  have eF : Ex F (L2.upd H l o) := fun a u hu => by
    have na : a ≠ l := fun z => by rw [z, w1] at hu; cases hu
    rw [upd_ne na]; exact e.fr.ext a u hu
  have conv : ∀ j a, Owns σ (ρ.set i (.o p c')) j a → Owns σ ρ j a := fun j a hj => by
    obtain ⟨h1, t, h2, h3⟩ := hj
    by_cases q : j = i
    · subst q
      rw [hl] at h1
      cases h1
      exact ow
    · rw [List.getElem?_set_ne (Ne.symm q)] at h2
      exact ⟨h1, t, h2, h3⟩
  refine ⟨⟨eF, e.fr.f0, fun a u hu m => ?_, fun a ha => ?_, e.fr.new, e.fr.mM⟩, by rw [List.length_set]; exact e.len, fun j t ht => ?_, fun j k a hj hk => e.sep j k a (conv j a hj) (conv k a hk), fun j a hj => ?_, fun j a d h1 h2 => ?_⟩
  · by_cases q : a = l
    · subst q
      rcases w3 with z | z
      · rw [z] at hu; cases hu
      · exact absurd z m
    · rw [upd_ne q]; exact e.fr.h0 a u hu m
  · by_cases q : a = l
    · subst q; rw [upd_same] at ha; cases ha
    · rw [upd_ne q] at ha; exact e.fr.there a ha
  · by_cases q : j = i
    · subst q
      obtain ⟨rfl, _⟩ := set_at ht
      rw [hl]
      exact ⟨l, rfl, hp, h⟩
    · rw [List.getElem?_set_ne (Ne.symm q)] at ht
      refine (e.ok j t ht).grow (.refl _) fun b u hb ot hu => ?_
      rw [upd_ne (fun nb => q (by subst nb; exact e.sep j i b (slot_own ht ot (join_some hb)) ow))]
      exact hu
  · obtain ⟨x1, x2, x3⟩ := e.own j a (conv j a hj)
    refine ⟨x1, ?_, x3⟩
    by_cases q : a = l
    · subst q; rw [upd_same]; exact fun z => nomatch z
    · rw [upd_ne q]; exact x2
  · by_cases q : j = i
    · subst q
      obtain ⟨q1, _⟩ := set_at h1
      cases q1
      exact e.fresh j a c hi h2
    · rw [List.getElem?_set_ne (Ne.symm q)] at h1
      exact e.fresh j a d h1 h2
/-- an object that nothing owns is frozen -/
theorem SE.frz (e : SE K C F H σ ρ) {p : Addr} {o : HO} (fp : F p = none) (hp : H p = some o) (h0 : C.H0 p = none) (no : ∀ j, ¬ Owns σ ρ j p) : SE K C (L2.upd F p o) H σ ρ := by
  have ex : Ex F (L2.upd F p o) := .new fp
  refine ⟨⟨fun a u h => ?_, e.fr.f0.trans ex, e.fr.h0, e.fr.there, fun a h z => ?_, e.fr.mM⟩, e.len, fun i s hs => (e.ok i s hs).grow ex (fun _ _ _ _ q => q), e.sep, fun i a ha => ?_, ?_⟩
  · by_cases q : a = p
    · rw [q, upd_same] at h; rw [q, hp]; exact h
    · rw [upd_ne q] at h; exact e.fr.ext a u h
  · exact (e.fr.new a h z).mono ex (fun y => .inl (by rw [upd_ne (fun q => h (by rw [q]; exact h0))]; exact y))
  · obtain ⟨x, y, z⟩ := e.own i a ha
    exact ⟨by rw [upd_ne (fun q => no i (by rw [← q]; exact ha))]; exact x, y, z⟩
  · exact e.fresh
theorem not_owns_new (e : SE K C F H σ ρ) {p : Addr} (hp : H p = none) : ∀ j, ¬ Owns σ ρ j p := fun j o => (e.own j p o).2.1 hp
/-- an object that a name owned (a new one) becomes data -/
theorem SE.thaw (e : SE K C F H σ ρ) {i : Nat} {l : Addr} {c : Ct} {o : HO} {x : PyData} (hi : ρ[i]? = some (.o none c)) (hl : σ[i]? = some (some (.ref l))) (ho : H l = some o) (hx : Rp K (L2.upd F l o) (.ref l) x) : SE K C (L2.upd F l o) H σ (ρ.set i (.d x)) := by
  have ow : Owns σ ρ i l := ⟨hl, _, hi, rfl⟩
  have hn : C.H0 l = none := e.fresh i l c hi hl
  obtain ⟨w1, w2, w3⟩ := e.own i l ow
  have conv : ∀ j a, Owns σ (ρ.set i (.d x)) j a → j ≠ i ∧ Owns σ ρ j a := fun j a hj => by
    obtain ⟨h1, t, h2, h3⟩ := hj
    by_cases q : j = i
    · subst q
      obtain ⟨rfl, _⟩ := set_at h2
      cases h3
    · rw [List.getElem?_set_ne (Ne.symm q)] at h2
      exact ⟨q, h1, t, h2, h3⟩
  have ex : Ex F (L2.upd F l o) := .new w1
  refine ⟨⟨fun a u h => ?_, e.fr.f0.trans ex, e.fr.h0, e.fr.there, fun a h z => ?_, e.fr.mM⟩, by rw [List.length_set]; exact e.len, fun j t ht => ?_, fun j k a hj hk => e.sep j k a (conv j a hj).2 (conv k a hk).2, fun j a hj => ?_, fun j a d h1 h2 => ?_⟩
  · by_cases q : a = l
    · rw [q, upd_same] at h; rw [q, ho]; exact h
    · rw [upd_ne q] at h; exact e.fr.ext a u h
  · exact (e.fr.new a h z).mono ex (fun y => .inl (by rw [upd_ne (fun q => h (by rw [q]; exact hn))]; exact y))
  · by_cases q : j = i
    · subst q
      obtain ⟨rfl, _⟩ := set_at ht
      rw [hl]
      exact ⟨_, rfl, hx⟩
    · rw [List.getElem?_set_ne (Ne.symm q)] at ht
      exact (e.ok j t ht).grow ex (fun _ _ _ _ z => z)
  · obtain ⟨q, oj⟩ := conv j a hj
    obtain ⟨x1, x2, x3⟩ := e.own j a oj
    exact ⟨by rw [upd_ne (fun z => q (by subst z; exact e.sep j i a oj ow))]; exact x1, x2, x3⟩
  · by_cases q : j = i
    · subst q
      obtain ⟨q1, _⟩ := set_at h1
      cases q1
    · rw [List.getElem?_set_ne (Ne.symm q)] at h1
      exact e.fresh j a d h1 h2

/-- .. and locked -/
theorem SE.thawF (e : SE K C F H σ ρ) {i : Nat} {l : Addr} {c : Ct} {o : HO} {x : PyData} (hi : ρ[i]? = some (.o none c)) (hl : σ[i]? = some (some (.ref l))) (hx : Rp K (L2.upd F l o) (.ref l) x) : SE K C (L2.upd F l o) (L2.upd H l o) σ (ρ.set i (.d x)) := by
  have ow : Owns σ ρ i l := ⟨hl, _, hi, rfl⟩
  have hn : C.H0 l = none := e.fresh i l c hi hl
  obtain ⟨w1, w2, w3⟩ := e.own i l ow
  have conv : ∀ j a, Owns σ (ρ.set i (.d x)) j a → j ≠ i ∧ Owns σ ρ j a := fun j a hj => by
    obtain ⟨h1, t, h2, h3⟩ := hj
    by_cases q : j = i
    · subst q
      obtain ⟨rfl, _⟩ := set_at h2
      cases h3
    · rw [List.getElem?_set_ne (Ne.symm q)] at h2
      exact ⟨q, h1, t, h2, h3⟩
  have ex : Ex F (L2.upd F l o) := .new w1
  refine ⟨⟨fun a u h => ?_, e.fr.f0.trans ex, fun a u hu m => ?_, fun a ha => ?_, fun a h z => ?_, e.fr.mM⟩, by rw [List.length_set]; exact e.len, fun j t ht => ?_, fun j k a hj hk => e.sep j k a (conv j a hj).2 (conv k a hk).2, fun j a hj => ?_, fun j a d h1 h2 => ?_⟩
  · by_cases q : a = l
    · rw [q, upd_same] at h ⊢; exact h
    · rw [upd_ne q] at h ⊢; exact e.fr.ext a u h
  · rw [upd_ne (fun q => by rw [q, hn] at hu; cases hu)]; exact e.fr.h0 a u hu m
  · by_cases q : a = l
    · rw [q, upd_same] at ha; cases ha
    · rw [upd_ne q] at ha; exact e.fr.there a ha
  · exact (e.fr.new a h z).mono ex (fun y => .inl (by rw [upd_ne (fun q => h (by rw [q]; exact hn))]; exact y))
  · by_cases q : j = i
    · subst q
      obtain ⟨rfl, _⟩ := set_at ht
      rw [hl]
      exact ⟨_, rfl, hx⟩
    · rw [List.getElem?_set_ne (Ne.symm q)] at ht
      refine (e.ok j t ht).grow ex (fun b u hb ot hu => ?_)
      rw [upd_ne (fun nb => q (by subst nb; exact e.sep j i b (slot_own ht ot (join_some hb)) ow))]
      exact hu
  · obtain ⟨q, oj⟩ := conv j a hj
    obtain ⟨x1, x2, x3⟩ := e.own j a oj
    have na : a ≠ l := fun z => by subst z; exact q (e.sep j i a oj ow)
    exact ⟨by rw [upd_ne na]; exact x1, by rw [upd_ne na]; exact x2, x3⟩
  · by_cases q : j = i
    · subst q
      obtain ⟨q1, _⟩ := set_at h1
      cases q1
    · rw [List.getElem?_set_ne (Ne.symm q)] at h1
      exact e.fresh j a d h1 h2
/-- an object that nothing owns is locked and frozen -/
theorem SE.frzF (e : SE K C F H σ ρ) {p : Addr} {o : HO} (fp : F p = none) (h0 : C.H0 p = none) (no : ∀ j, ¬ Owns σ ρ j p) : SE K C (L2.upd F p o) (L2.upd H p o) σ ρ := by
  have ex : Ex F (L2.upd F p o) := .new fp
  refine ⟨⟨fun a u h => ?_, e.fr.f0.trans ex, fun a u hu m => ?_, fun a ha => ?_, fun a h z => ?_, e.fr.mM⟩, e.len, fun i s hs => (e.ok i s hs).grow ex (fun b u hb ot hu => ?_), e.sep, fun i a ha => ?_, ?_⟩
  · by_cases q : a = p
    · rw [q, upd_same] at h ⊢; exact h
    · rw [upd_ne q] at h ⊢; exact e.fr.ext a u h
  · rw [upd_ne (fun q => by rw [q, h0] at hu; cases hu)]; exact e.fr.h0 a u hu m
  · by_cases q : a = p
    · rw [q, upd_same] at ha; cases ha
    · rw [upd_ne q] at ha; exact e.fr.there a ha
  · exact (e.fr.new a h z).mono ex (fun y => .inl (by rw [upd_ne (fun q => h (by rw [q]; exact h0))]; exact y))
  · rw [upd_ne (fun nb => no i (by subst nb; exact slot_own hs ot (join_some hb)))]; exact hu
  · obtain ⟨x, y, z⟩ := e.own i a ha
    have na : a ≠ p := fun q => no i (by rw [← q]; exact ha)
    exact ⟨by rw [upd_ne na]; exact x, by rw [upd_ne na]; exact y, z⟩
  · exact e.fresh
/-- a tuple that stands is frozen -/
theorem SE.frzT (e : SE K C F H σ ρ) {p : Addr} {xs : List V} (hp : H p = some (.tup xs)) (np : F p = none) : SE K C (L2.upd F p (.tup xs)) H σ ρ := by
  have ex : Ex F (L2.upd F p (.tup xs)) := .new np
  refine ⟨⟨fun a u h => ?_, e.fr.f0.trans ex, e.fr.h0, e.fr.there, fun a h z => ?_, e.fr.mM⟩, e.len, fun i s hs => (e.ok i s hs).grow ex (fun _ _ _ _ q => q), e.sep, fun i a ha => ?_, e.fresh⟩
  · by_cases q : a = p
    · rw [q, upd_same] at h; rw [q, hp]; exact h
    · rw [upd_ne q] at h; exact e.fr.ext a u h
  · refine (e.fr.new a h z).mono ex (fun y => ?_)
    by_cases q : a = p
    · exact .inr ⟨xs, by rw [q, upd_same]⟩
    · exact .inl (by rw [upd_ne q]; exact y)
  · obtain ⟨x, y, z⟩ := e.own i a ha
    exact ⟨by rw [upd_ne (fun q => e.nt ha xs (by rw [q]; exact hp))]; exact x, y, z⟩

/-! ### less said -/
inductive Le : En → En → Prop
  | nil : Le [] []
  | un {s : Sl} {ρ ρ' : En} : Le ρ ρ' → Le (.un :: ρ) (s :: ρ')
  | eq {s : Sl} {ρ ρ' : En} : Le ρ ρ' → Le (s :: ρ) (s :: ρ')
theorem Le.refl : ∀ ρ : En, Le ρ ρ
  | [] => .nil
  | _ :: ρ => .eq (Le.refl ρ)
theorem Le.len : ∀ {ρ ρ' : En}, Le ρ ρ' → ρ.length = ρ'.length
  | _, _, .nil => rfl
  | _, _, .un h => by rw [List.length_cons, List.length_cons, Le.len h]
  | _, _, .eq h => by rw [List.length_cons, List.length_cons, Le.len h]
theorem Le.get : ∀ {ρ ρ' : En} {i : Nat} {s : Sl}, Le ρ ρ' → ρ[i]? = some s → s = .un ∨ ρ'[i]? = some s
  | _, _, _, _, .nil, h => by simp at h
  | _, _, 0, s, .un _, h => by simp at h; exact .inl h.symm
  | _, _, 0, s, .eq _, h => by simp at h; subst h; exact .inr rfl
  | _, _, i + 1, s, .un r, h => by
    have := Le.get (i := i) (s := s) r (by simpa using h)
    simpa using this
  | _, _, i + 1, s, .eq r, h => by
    have := Le.get (i := i) (s := s) r (by simpa using h)
    simpa using this
theorem SE.le {ρ' : En} (e : SE K C F H σ ρ) (h : Le ρ' ρ) : SE K C F H σ ρ' := by
  have conv : ∀ j a, Owns σ ρ' j a → Owns σ ρ j a := fun j a ⟨h1, t, h2, h3⟩ => by
    rcases h.get h2 with z | z
    · subst z; cases h3
    · exact ⟨h1, t, z, h3⟩
  refine ⟨e.fr, e.len.trans h.len.symm, fun i s hs => ?_, fun j k a hj hk => e.sep j k a (conv j a hj) (conv k a hk), fun j a hj => e.own j a (conv j a hj), fun j a c h1 h2 => ?_⟩
  · rcases h.get hs with z | z
    · subst z; trivial
    · exact e.ok i s z
  · rcases h.get h1 with z | z
    · cases z
    · exact e.fresh j a c z h2
/-- σ forgotten where nothing is said -/
theorem SE.sub {σ' : L2.St} (e : SE K C F H σ ρ) (hl : σ'.length = σ.length) (h : ∀ (i : Nat) (s : Sl), ρ[i]? = some s → s ≠ Sl.un → σ'[i]? = σ[i]?) : SE K C F H σ' ρ := by
  have conv : ∀ j a, Owns σ' ρ j a → Owns σ ρ j a := fun j a ⟨h1, t, h2, h3⟩ => ⟨by rw [← h j t h2 (fun z => by subst z; cases h3)]; exact h1, t, h2, h3⟩
  refine ⟨e.fr, hl.trans e.len, fun i s hs => ?_, fun j k a hj hk => e.sep j k a (conv j a hj) (conv k a hk), fun j a hj => e.own j a (conv j a hj), fun j a c h1 h2 => e.fresh j a c h1 (by rw [← h j _ h1 (fun z => nomatch z)]; exact h2)⟩
  by_cases q : s = .un
  · subst q; trivial
  · rw [h i s hs q]; exact e.ok i s hs
/-- another entry -/
theorem SE.rebase (e : SE K C F H σ ρ) : SE K ⟨F, C.H0, C.M⟩ F H σ ρ := ⟨⟨e.fr.ext, .refl _, e.fr.h0, e.fr.there, fun _ _ z => .inl z, e.fr.mM⟩, e.len, e.ok, e.sep, e.own, e.fresh⟩
theorem SE.unbase {F1 H1 : Hp} (f : Fr C F1 H1) (e : SE K ⟨F1, C.H0, C.M⟩ F H σ ρ) : SE K C F H σ ρ :=
  ⟨⟨e.fr.ext, f.f0.trans e.fr.f0, e.fr.h0, e.fr.there, fun a h z => (f.new a h z).mono e.fr.f0 (e.fr.new a h), e.fr.mM⟩, e.len, e.ok, e.sep, e.own, e.fresh⟩
end
end G

/-! GExpr: expressions and tests in words of data. -/
namespace G
open PySem PySem.Spec PyProof.Rows L2

section
variable {X : Cx}
theorem PE_imp {e : Expr} {t t' : TE} (h : PE X e t) (i : ∀ σ H Q, t' σ H Q → t σ H Q) : PE X e t' := ⟨fun pins s σ H Q I q => h.run pins s σ H Q I (i _ _ _ q)⟩
theorem PT_imp {e : Expr} {t t' : TT} (h : PT X e t) (i : ∀ σ H Q, t' σ H Q → t σ H Q) : PT X e t' := ⟨fun pins s σ H Q I q => h.run pins s σ H Q I (i _ _ _ q)⟩
theorem PW_imp {e : Expr} {t t' : TT} (h : PW X e t) (i : ∀ σ H Q, t' σ H Q → t σ H Q) : PW X e t' := ⟨fun wh pins s σ H Q I q => h.run wh pins s σ H Q I (i _ _ _ q)⟩
theorem PA_imp {e : List Expr} {t t' : TA} (h : PA X e t) (i : ∀ σ H Q, t' σ H Q → t σ H Q) : PA X e t' := ⟨fun pos pins s σ H Q I q => h.run pos pins s σ H Q I (i _ _ _ q)⟩
theorem PS_imp {e : Stmt} {t t' : TS} (h : PS X e t) (i : ∀ D σ H, t' D σ H → t D σ H) : PS X e t' := ⟨fun pins s σ H Q I q => h.run pins s σ H Q I (i _ _ _ q)⟩
theorem PSs_imp {e : List Stmt} {t t' : TS} (h : PSs X e t) (i : ∀ D σ H, t' D σ H → t D σ H) : PSs X e t' := ⟨fun pins s σ H Q I q => h.run pins s σ H Q I (i _ _ _ q)⟩
theorem PE_ex {ι : Type} {e : Expr} {t : ι → TE} (h : ∀ i, PE X e (t i)) : PE X e (fun σ H Q => ∃ i, t i σ H Q) := ⟨fun pins s σ H Q I ⟨i, q⟩ => (h i).run pins s σ H Q I q⟩
theorem PT_ex {ι : Type} {e : Expr} {t : ι → TT} (h : ∀ i, PT X e (t i)) : PT X e (fun σ H Q => ∃ i, t i σ H Q) := ⟨fun pins s σ H Q I ⟨i, q⟩ => (h i).run pins s σ H Q I q⟩
theorem PTs_ex {ι : Type} {e : List Expr} {t : ι → TT} (h : ∀ i, PTs X e (t i)) : PTs X e (fun σ H Q => ∃ i, t i σ H Q) := ⟨fun pins s σ H Q I ⟨i, q⟩ => (h i).run pins s σ H Q I q⟩
theorem PSs_ex {ι : Type} {e : List Stmt} {t : ι → TS} (h : ∀ i, PSs X e (t i)) : PSs X e (fun D σ H => ∃ i, t i D σ H) := ⟨fun pins s σ H D I ⟨i, q⟩ => (h i).run pins s σ H D I q⟩
end

/-! ### readings -/
/-- data x comes, the slots are then ρ' -/
def tP (K : PySem.W.Frag) (ρ : En) (x : PyData) (ρ' : En) : TE := fun σ H Q => ∃ C F, SE K C F H σ ρ ∧ ∀ v F' H', Ex F F' → SE K C F' H' σ ρ' → Rp K F' v x → Q v H'
/-- a new object comes -/
def tN (K : PySem.W.Frag) (ρ : En) (s : Ct) (ρ' : En) : TE := fun σ H Q => ∃ C F, SE K C F H σ ρ ∧ ∀ p F' H', Ex F F' → SE K C F' H' σ ρ' → F' p = none → C.H0 p = none → (∀ j, ¬ Owns σ ρ' j p) → Own1 K F' H' p s → Q (.ref p) H'
/-- a list comes: data, or the one that the slot owns -/
def SrcV (K : PySem.W.Frag) (F : Hp) (σ : L2.St) (src : Option Nat) (v : V) (xs : List PyData) : Prop :=
  match src with
  | none => ∃ a vs, v = .ref a ∧ SqL K F a vs ∧ RpA K F vs xs
  | some i => ∃ a, v = .ref a ∧ σ[i]? = some (some (.ref a))
def SrcOk (ρ : En) (src : Option Nat) (xs : List PyData) : Prop :=
  match src with
  | none => True
  | some i => ∃ p, ρ[i]? = some (.o p (.l xs))
def tQ (K : PySem.W.Frag) (ρ : En) (src : Option Nat) (xs : List PyData) (ρ' : En) : TE := fun σ H Q => ∃ C F, SE K C F H σ ρ ∧ ∀ v F' H', Ex F F' → SE K C F' H' σ ρ' → SrcV K F' σ src v xs → Q v H'
def tT (K : PySem.W.Frag) (ρ : En) (b : Bool) (ρ' : En) : TT := fun σ H Q => ∃ C F, SE K C F H σ ρ ∧ ∀ F' H', Ex F F' → SE K C F' H' σ ρ' → Q b H'
def tAs (K : PySem.W.Frag) (ρ : En) (xs : List PyData) (ρ' : En) : TA := fun σ H Q => ∃ C F, SE K C F H σ ρ ∧ ∀ vs F' H', Ex F F' → SE K C F' H' σ ρ' → RpA K F' vs xs → Q vs H'

abbrev PD (X : Cx) (e : Expr) (ρ : En) (x : PyData) (ρ' : En) : Prop := PE X e (tP X.K ρ x ρ')
abbrev PN (X : Cx) (e : Expr) (ρ : En) (s : Ct) (ρ' : En) : Prop := PE X e (tN X.K ρ s ρ')
abbrev PQ (X : Cx) (e : Expr) (ρ : En) (src : Option Nat) (xs : List PyData) (ρ' : En) : Prop := PE X e (tQ X.K ρ src xs ρ')
abbrev TD (X : Cx) (e : Expr) (ρ : En) (b : Bool) (ρ' : En) : Prop := PT X e (tT X.K ρ b ρ')
abbrev WD (X : Cx) (e : Expr) (ρ : En) (b : Bool) (ρ' : En) : Prop := PW X e (tT X.K ρ b ρ')
abbrev AD (X : Cx) (es : List Expr) (ρ : En) (xs : List PyData) (ρ' : En) : Prop := PA X es (tAs X.K ρ xs ρ')

section
variable {K : PySem.W.Frag} {C : Cn} {F H F' H' : Hp} {σ : L2.St} {ρ : En}
theorem SrcV.mono {src : Option Nat} {v : V} {xs : List PyData} (x : Ex F F') (h : SrcV K F σ src v xs) : SrcV K F' σ src v xs := by
  cases src with
  | none => obtain ⟨a, vs, b, c, d⟩ := h; exact ⟨a, vs, b, x.l c, d.mono x⟩
  | some i => exact h
theorem SrcV.look {src : Option Nat} {v : V} {xs : List PyData} (e : SE K C F H σ ρ) (h : SrcV K F σ src v xs) (ok : SrcOk ρ src xs) : ∃ a vs, v = .ref a ∧ SqL K H a vs ∧ RpA K F vs xs := by
  cases src with
  | none => obtain ⟨a, vs, b, c, d⟩ := h; exact ⟨a, vs, b, e.fr.ext.l c, d⟩
  | some i =>
    obtain ⟨a, rfl, h⟩ := h
    obtain ⟨p, ok⟩ := ok
    obtain ⟨l, h1, _, ⟨vs, h2, h3⟩, _⟩ := e.getO ok
    rw [h] at h1
    cases h1
    exact ⟨a, vs, rfl, SqL.of h2, h3⟩
end

section
variable {X : Cx} {e a b c : Expr} {es : List Expr} {pos : Pos} {ρ ρ' ρ1 ρ2 ρ3 : En} {x y z : PyData} {xs ys : List PyData}

/-- a new list as data -/
theorem pd_n (h : PN X e ρ (.l xs) ρ') : PD X e ρ (.list xs) ρ' := PE_imp h fun σ H Q ⟨C, F, se, q⟩ => ⟨C, F, se, fun p F' H' x se' fp h0 no ⟨vs, hp, r⟩ =>
  q (.ref p) (upd F' p (.lst vs)) H' (x.trans (.new fp)) (se'.frz fp hp h0 no) (.lst (SqL.of upd_same) (r.mono (.new fp)))⟩
theorem keys_zip {κ : Type} (f : κ → PyData) {kvs : List (κ × V)} {ds : List (κ × PyData)} (h : kvs.map (·.1) = ds.map (·.1)) : (kvs.map fun p => f p.1).zip (ds.map (·.2)) = ds.map fun p => (f p.1, p.2) := by
  have e : (kvs.map fun p => f p.1) = ds.map fun p => f p.1 := by
    have e1 : (kvs.map fun p => f p.1) = (kvs.map (·.1)).map f := by rw [List.map_map]; rfl
    have e2 : (ds.map fun p => f p.1) = (ds.map (·.1)).map f := by rw [List.map_map]; rfl
    rw [e1, e2, h]
  rw [e, List.zip_map']
theorem pe_frz {t : TE} (h : PE X e t) : PE X e (fun σ H Q => t σ H fun v H1 => ∃ d u, H1 d = some u ∧ Mut (some u) ∧ ∀ od, Q v (upd H1 d (.frz od u))) :=
  ⟨fun pins s σ H Q I q => thn (h.run pins s σ H _ I q) fun v s1 ⟨x, H1, I2, r, d, u, hd, mu, q⟩ => by
    obtain ⟨od, I3⟩ := I2.lock hd mu
    exact ⟨x, _, I3, r, q od⟩⟩
/-- a new dict as data -/
theorem pd_nd {ds : List (Key × PyData)} (h : PN X e ρ (.d ds) ρ') : PD X e ρ (.dict (ds.map fun p => (kD p.1, p.2))) ρ' := PE_imp (pe_frz h) fun σ H Q ⟨C, F, se, q⟩ => ⟨C, F, se, fun p F' H' x se' fp h0 no ⟨kvs, hp, r⟩ =>
  ⟨p, _, hp, trivial, fun od => q (.ref p) (upd F' p (.frz od (.dK kvs))) _ (x.trans (.new fp)) (se'.frzF fp h0 no) (by rw [← keys_zip kD r.1]; exact .dK upd_same (r.2.mono (.new fp)))⟩⟩
/-- an empty one is one of either kind -/
theorem lockE {pins : List (Addr × Obj)} {σ : L2.St} {H : Hp} {s : Shared} {d : Addr} (I : Inv X pins σ H s) (h : H d = some (.dT [])) : ∃ od, Inv X pins σ (upd H d (.frz od (.dK []))) s := by
  have x := I.hok d _ h
  obtain ⟨z, y, xs, r, o, es, ep, h1, h2, h3, h4, h5⟩ := x
  cases r
  have e0 : es = #[] := Array.toList_eq_nil_iff.mp h4
  subst e0
  have new : ObjOk X.prog X.w (upd H d (.frz o (.dK []))) s.heap d (.frz o (.dK [])) := ⟨h1, z, y, [], .nil, o, #[], ep, h1, h2, h3, fun e he => by simp at he, .nil, List.nodup_nil⟩
  exact ⟨o, I.write (x := d) (e := d) (t' := s.toks) (h' := s.heap) (by rw [h]; trivial) (.inl rfl) (fun b v _ q => q) ⟨o, h1⟩ new⟩
def frzOf (od : Obj) (kvs : List (List Key × V)) : HO := match kvs with | [] => .frz od (.dK []) | p :: r => .frz od (.dT (p :: r))
theorem pe_frzT {t : TE} (h : PE X e t) : PE X e (fun σ H Q => t σ H fun v H1 => ∃ d kvs, H1 d = some (.dT kvs) ∧ ∀ od, Q v (upd H1 d (frzOf od kvs))) :=
  ⟨fun pins s σ H Q I q => thn (h.run pins s σ H _ I q) fun v s1 ⟨x, H1, I2, r, d, kvs, hd, q⟩ => by
    cases kvs with
    | nil =>
      obtain ⟨od, I3⟩ := lockE I2 hd
      exact ⟨x, _, I3, r, q od⟩
    | cons p rr =>
      obtain ⟨od, I3⟩ := I2.lock hd trivial
      exact ⟨x, _, I3, r, q od⟩⟩
theorem rp_frzT {K : PySem.W.Frag} {F : Hp} {p : Addr} {od : Obj} {kvs : List (List Key × V)} {ds : List (List Key × PyData)} (r : KvA K F kvs ds) (hp : F p = some (frzOf od kvs)) : Rp K F (.ref p) (.dict (ds.map fun p => (kDs p.1, p.2))) := by
  rw [← keys_zip kDs r.1]
  cases kvs with
  | nil => exact .dK (kvs := []) hp (by have := r.2; exact this)
  | cons a b => exact .dT hp (fun z => nomatch z) r.2
theorem pd_nt {ds : List (List Key × PyData)} (h : PN X e ρ (.t ds) ρ') : PD X e ρ (.dict (ds.map fun p => (kDs p.1, p.2))) ρ' := PE_imp (pe_frzT h) fun σ H Q ⟨C, F, se, q⟩ => ⟨C, F, se, fun p F' H' x se' fp h0 no ⟨kvs, hp, r⟩ =>
  ⟨p, _, hp, fun od => q (.ref p) (upd F' p (frzOf od kvs)) _ (x.trans (.new fp)) (se'.frzF fp h0 no) (rp_frzT (r.mono (.new fp)) upd_same)⟩⟩
theorem pq_d (h : PD X e ρ (.list xs) ρ') : PQ X e ρ none xs ρ' := PE_imp h fun σ H Q ⟨C, F, se, q⟩ => ⟨C, F, se, fun v F' H' x se' r => q v F' H' x se' (by
  cases r with
  | lst h1 h2 => exact ⟨_, _, rfl, h1, h2⟩)⟩
theorem pq_n (h : PN X e ρ (.l xs) ρ') : PQ X e ρ none xs ρ' := pq_d (pd_n h)
/-- a name whose slot owns a list -/
theorem pq_o (i : Nat) {x : Str} {p : Option Addr} (hi : ρ[i]? = some (.o p (.l xs))) (hN : X.N[i]? = some x := by rfl) (hv : Vis X.env.scope x := by first | exact Or.inl rfl | exact Or.inr (Or.inl rfl) | exact Or.inr (Or.inr rfl)) (hd : (x == ("__debug__" : Str)) = false := by decide)
    (hcd : (x == ("__classdict__" : Str)) = false := by decide) : PQ X (.Name x pos) ρ (some i) xs ρ := PE_imp (pe_var hN hv hd hcd) fun σ H Q ⟨C, F, se, q⟩ => by
  obtain ⟨l, h1, _, h2, _⟩ := se.getO hi
  exact ⟨.ref l, h1, q _ F H (.refl _) se ⟨l, rfl, h1⟩⟩
/-- a name whose slot holds data -/
theorem pd_var (i : Nat) {w : Str} (hi : ρ[i]? = some (.d x)) (hN : X.N[i]? = some w := by rfl) (hv : Vis X.env.scope w := by first | exact Or.inl rfl | exact Or.inr (Or.inl rfl) | exact Or.inr (Or.inr rfl)) (hd : (w == ("__debug__" : Str)) = false := by decide)
    (hcd : (w == ("__classdict__" : Str)) = false := by decide) : PD X (.Name w pos) ρ x ρ := PE_imp (pe_var hN hv hd hcd) fun σ H Q ⟨C, F, se, q⟩ => by
  obtain ⟨v, h1, h2⟩ := se.get hi
  exact ⟨v, h1, q _ F H (.refl _) se h2⟩
theorem pd_of_c {v : V} (h : PE X e (tC v)) (r : ∀ F, Rp X.K F v x) : PD X e ρ x ρ := PE_imp h fun σ H Q ⟨C, F, se, q⟩ => q v F H (.refl _) se (r F)
theorem pd_int {i : Int} {j} : PD X (.Constant (.int i) j pos) ρ (.int i) ρ := pd_of_c pe_int fun _ => .int i
theorem pd_str {i : Str} {j} : PD X (.Constant (.str i) j pos) ρ (.str i) ρ := pd_of_c pe_str fun _ => .str i
theorem pd_bl {i : Bool} {j} : PD X (.Constant (.bool i) j pos) ρ (.bool i) ρ := pd_of_c pe_bl fun _ => .bl i
theorem pd_non {j} : PD X (.Constant .none j pos) ρ .none ρ := pd_of_c pe_non fun _ => .non
theorem pd_gint {w : Str} {i : Int} {t : Tok} (hm : X.mg w = some (.int i t)) (hg : Gl X w := by rfl) (hd : (w == ("__debug__" : Str)) = false := by decide) : PD X (.Name w pos) ρ (.int i) ρ := pd_of_c (pe_glob hg hm (v := .int i) ⟨t, rfl⟩ hd) fun _ => .int i
theorem pd_gstr {w : Str} {i : Str} {t : Tok} (hm : X.mg w = some (.str i t)) (hg : Gl X w := by rfl) (hd : (w == ("__debug__" : Str)) = false := by decide) : PD X (.Name w pos) ρ (.str i) ρ := pd_of_c (pe_glob hg hm (v := .str i) ⟨t, rfl⟩ hd) fun _ => .str i

/-! ### operators -/
/-- an operator's reading takes data to data -/
def OpD (K : PySem.W.Frag) (r : R2) (x y z : PyData) : Prop := ∀ (F H : Hp) (v w : V) (Q : VK), Ex F H → Rp K F v x → Rp K F w y → (∀ u F' H', Gr F H F' H' → Rp K F' u z → Q u H') → r v w H Q
theorem pd_op {op : Operator} {r : R2} (ho : OpR X (binaryOp op) r) (h : OpD X.K r x y z) (ha : PD X a ρ x ρ1) (hb : PD X b ρ1 y ρ2) : PD X (.BinOp a op b pos) ρ z ρ2 := PE_imp (pe_op ho ha hb) fun σ H Q ⟨C, F, e, q⟩ =>
  ⟨C, F, e, fun v F1 H1 x1 e1 r1 => ⟨C, F1, e1, fun w F2 H2 x2 e2 r2 => h F2 H2 v w Q e2.fr.ext (r1.mono x2) r2 fun u F3 H3 g r3 => q u F3 H3 (x1.trans (x2.trans g.f)) (e2.grow g) r3⟩⟩
theorem pd_cmp {op : CmpOp} {r : R2} (ho : OpR X (compareOp op) r) (h : OpD X.K r x y z) (ha : PD X a ρ x ρ1) (hb : PD X b ρ1 y ρ2) (hm : behindInMarks op b = false) : PD X (.Compare a [op] [b] pos) ρ z ρ2 := PE_imp (pe_cmpR ho ha hb hm) fun σ H Q ⟨C, F, e, q⟩ =>
  ⟨C, F, e, fun v F1 H1 x1 e1 r1 => ⟨C, F1, e1, fun w F2 H2 x2 e2 r2 => h F2 H2 v w Q e2.fr.ext (r1.mono x2) r2 fun u F3 H3 g r3 => q u F3 H3 (x1.trans (x2.trans g.f)) (e2.grow g) r3⟩⟩
theorem rp_bool {K : PySem.W.Frag} {F : Hp} {v : V} {k : Bool} (r : Rp K F v (.bool k)) : v = .bl k := by cases r; rfl
theorem rp_int {K : PySem.W.Frag} {F : Hp} {v : V} {k : Int} (r : Rp K F v (.int k)) : v = .int k := by cases r; rfl
theorem rp_str {K : PySem.W.Frag} {F : Hp} {v : V} {k : Str} (r : Rp K F v (.str k)) : v = .str k := by cases r; rfl
theorem rp_non {K : PySem.W.Frag} {F : Hp} {v : V} (r : Rp K F v .none) : v = .non := by cases r; rfl
theorem td_cmp {op : CmpOp} {r : R2} {k : Bool} (ho : OpR X (compareOp op) r) (h : OpD X.K r x y (.bool k)) (ha : PD X a ρ x ρ1) (hb : PD X b ρ1 y ρ2) (hm : behindInMarks op b = false) : TD X (.Compare a [op] [b] pos) ρ k ρ2 := PT_imp (pt_cmpR ho ha hb hm) fun σ H Q ⟨C, F, e, q⟩ =>
  ⟨C, F, e, fun v F1 H1 x1 e1 r1 => ⟨C, F1, e1, fun w F2 H2 x2 e2 r2 => h F2 H2 v w _ e2.fr.ext (r1.mono x2) r2 fun u F3 H3 g r3 => ⟨k, rp_bool r3, q F3 H3 (x1.trans (x2.trans g.f)) (e2.grow g)⟩⟩⟩
section
variable {K : PySem.W.Frag} {i j : Int} {s t : Str}
theorem opd_I0 {g : Int → Int → V} (h : ∀ F, Rp K F (g i j) z) : OpD K (rI0 g) (.int i) (.int j) z := fun F H v w Q e r1 r2 q => ⟨i, j, rp_int r1, rp_int r2, q _ F H (.refl e) (h F)⟩
theorem opd_I {P : Int → Int → Prop} {g : Int → Int → V} (hp : P i j) (h : ∀ F, Rp K F (g i j) z) : OpD K (rI P g) (.int i) (.int j) z := fun F H v w Q e r1 r2 q => ⟨i, j, rp_int r1, rp_int r2, hp, q _ F H (.refl e) (h F)⟩
end
variable {i j : Int} {s t : Str}
theorem pd_add (ha : PD X a ρ (.int i) ρ1) (hb : PD X b ρ1 (.int j) ρ2) : PD X (.BinOp a .Add b pos) ρ (.int (i + j)) ρ2 := pd_op op_add (opd_I0 fun _ => .int _) ha hb
theorem pd_sub (ha : PD X a ρ (.int i) ρ1) (hb : PD X b ρ1 (.int j) ρ2) : PD X (.BinOp a .Sub b pos) ρ (.int (i - j)) ρ2 := pd_op op_sub (opd_I0 fun _ => .int _) ha hb
theorem pd_mul (hc : CMul i j) (ha : PD X a ρ (.int i) ρ1) (hb : PD X b ρ1 (.int j) ρ2) : PD X (.BinOp a .Mult b pos) ρ (.int (i * j)) ρ2 := pd_op op_mul (opd_I hc fun _ => .int _) ha hb
theorem pd_fdiv (hc : CDiv i j) (ha : PD X a ρ (.int i) ρ1) (hb : PD X b ρ1 (.int j) ρ2) : PD X (.BinOp a .FloorDiv b pos) ρ (.int (i / j)) ρ2 := pd_op op_fdiv (opd_I hc fun _ => .int _) ha hb
theorem pd_mod (hc : 0 < j) (ha : PD X a ρ (.int i) ρ1) (hb : PD X b ρ1 (.int j) ρ2) : PD X (.BinOp a .Mod b pos) ρ (.int (i % j)) ρ2 := pd_op op_mod (opd_I hc fun _ => .int _) ha hb
theorem pd_pow (hc : CPow i j) (ha : PD X a ρ (.int i) ρ1) (hb : PD X b ρ1 (.int j) ρ2) : PD X (.BinOp a .Pow b pos) ρ (.int (i ^ j.toNat)) ρ2 := pd_op op_pow (opd_I hc fun _ => .int _) ha hb
theorem pd_addS (hc : s.length + t.length ≤ sizeLine) (ha : PD X a ρ (.str s) ρ1) (hb : PD X b ρ1 (.str t) ρ2) : PD X (.BinOp a .Add b pos) ρ (.str (s ++ t)) ρ2 :=
  pd_op op_add_str (fun F H v w Q e r1 r2 q => ⟨s, t, rp_str r1, rp_str r2, hc, q _ F H (.refl e) (.str _)⟩) ha hb
theorem td_lt (ha : PD X a ρ (.int i) ρ1) (hb : PD X b ρ1 (.int j) ρ2) : TD X (.Compare a [.Lt] [b] pos) ρ (decide (i < j)) ρ2 := td_cmp op_lt (opd_I0 fun _ => .bl _) ha hb (nomark _)
theorem td_le (ha : PD X a ρ (.int i) ρ1) (hb : PD X b ρ1 (.int j) ρ2) : TD X (.Compare a [.LtE] [b] pos) ρ (decide (i ≤ j)) ρ2 := td_cmp op_le (opd_I0 fun _ => .bl _) ha hb (nomark _)
theorem td_gt (ha : PD X a ρ (.int i) ρ1) (hb : PD X b ρ1 (.int j) ρ2) : TD X (.Compare a [.Gt] [b] pos) ρ (decide (j < i)) ρ2 := td_cmp op_gt (opd_I0 fun _ => .bl _) ha hb (nomark _)
theorem td_ge (ha : PD X a ρ (.int i) ρ1) (hb : PD X b ρ1 (.int j) ρ2) : TD X (.Compare a [.GtE] [b] pos) ρ (decide (j ≤ i)) ρ2 := td_cmp op_ge (opd_I0 fun _ => .bl _) ha hb (nomark _)
theorem pd_lt (ha : PD X a ρ (.int i) ρ1) (hb : PD X b ρ1 (.int j) ρ2) : PD X (.Compare a [.Lt] [b] pos) ρ (.bool (decide (i < j))) ρ2 := pd_cmp op_lt (opd_I0 fun _ => .bl _) ha hb (nomark _)
theorem pd_le (ha : PD X a ρ (.int i) ρ1) (hb : PD X b ρ1 (.int j) ρ2) : PD X (.Compare a [.LtE] [b] pos) ρ (.bool (decide (i ≤ j))) ρ2 := pd_cmp op_le (opd_I0 fun _ => .bl _) ha hb (nomark _)
theorem pd_gt (ha : PD X a ρ (.int i) ρ1) (hb : PD X b ρ1 (.int j) ρ2) : PD X (.Compare a [.Gt] [b] pos) ρ (.bool (decide (j < i))) ρ2 := pd_cmp op_gt (opd_I0 fun _ => .bl _) ha hb (nomark _)
theorem pd_ge (ha : PD X a ρ (.int i) ρ1) (hb : PD X b ρ1 (.int j) ρ2) : PD X (.Compare a [.GtE] [b] pos) ρ (.bool (decide (j ≤ i))) ρ2 := pd_cmp op_ge (opd_I0 fun _ => .bl _) ha hb (nomark _)

/-! ### == of data -/
/-- none, bools, ints, texts, lists, tuples of these -/
def flat (d : PyData) : Bool := SeqAt.shaped d
mutual
theorem Rp.dp {K : PySem.W.Frag} {F : Hp} : ∀ (d : PyData) {v : V}, Rp K F v d → d.canLay0 = true → Dp K F v d
  | .none, _, h, _ => by cases h; exact .non
  | .bool b, _, h, _ => by cases h; exact .bl b
  | .int b, _, h, _ => by cases h; exact .int b
  | .str b, _, h, _ => by cases h; exact .str b
  | .list ds, _, h, q => by
    cases h with
    | lst h r => exact .lst h (RpA.dp ds r (by simpa [PyData.canLay0] using q))
  | .tuple ds, _, h, q => by
    cases h with
    | tup h r => exact .tup (SqT.of h) (RpA.dp ds r (by simpa [PyData.canLay0] using q))
  | .dict _, _, _, q => by simp [PyData.canLay0] at q
theorem RpA.dp {K : PySem.W.Frag} {F : Hp} : ∀ (ds : List PyData) {v : List V}, RpA K F v ds → PyData.canLayAll0 ds = true → DpAll K F v ds
  | [], _, h, _ => by cases h; exact .nil
  | d :: ds, _, h, q => by
    have q' : d.canLay0 = true ∧ PyData.canLayAll0 ds = true := by simpa [PyData.canLayAll0] using q
    cases h with
    | cons h r => exact .cons (Rp.dp d h q'.1) (RpA.dp ds r q'.2)
end
mutual
theorem dp_mono {K : PySem.W.Frag} {F F' : Hp} (e : Ex F F') : ∀ (d : PyData) {v : V}, Dp K F v d → Dp K F' v d
  | .none, _, h => by cases h; exact .non
  | .bool b, _, h => by cases h; exact .bl b
  | .int b, _, h => by cases h; exact .int b
  | .str b, _, h => by cases h; exact .str b
  | .list ds, _, h => by
    cases h with
    | lst h r => exact .lst (e.l h) (dpa_mono e ds r)
  | .tuple ds, _, h => by
    cases h with
    | tup h r => exact .tup (e.t h) (dpa_mono e ds r)
  | .dict _, _, h => by cases h
theorem dpa_mono {K : PySem.W.Frag} {F F' : Hp} (e : Ex F F') : ∀ (ds : List PyData) {v : List V}, DpAll K F v ds → DpAll K F' v ds
  | [], _, h => by cases h; exact .nil
  | d :: ds, _, h => by
    cases h with
    | cons h r => exact .cons (dp_mono e d h) (dpa_mono e ds r)
end
theorem opd_eqD {K : PySem.W.Frag} (hx : flat x = true) (hy : flat y = true) : OpD K (rEqD K) x y (.bool (PyData.eqv x y)) := fun F H v w Q e r1 r2 q =>
  ⟨x, y, dp_mono e x (Rp.dp x r1 (SeqAt.canLay_of_shaped hx)), dp_mono e y (Rp.dp y r2 (SeqAt.canLay_of_shaped hy)), hx, hy, q _ F H (.refl e) (.bl _)⟩
theorem opd_neD {K : PySem.W.Frag} (hx : flat x = true) (hy : flat y = true) : OpD K (rNeD K) x y (.bool (!PyData.eqv x y)) := fun F H v w Q e r1 r2 q =>
  ⟨x, y, dp_mono e x (Rp.dp x r1 (SeqAt.canLay_of_shaped hx)), dp_mono e y (Rp.dp y r2 (SeqAt.canLay_of_shaped hy)), hx, hy, q _ F H (.refl e) (.bl _)⟩
theorem td_eq (hu : X.A.units + 64 < cLine) (hx : flat x = true) (hy : flat y = true) (ha : PD X a ρ x ρ1) (hb : PD X b ρ1 y ρ2) : TD X (.Compare a [.Eq] [b] pos) ρ (PyData.eqv x y) ρ2 := td_cmp (op_eqD hu) (opd_eqD hx hy) ha hb (nomark _)
theorem td_ne (hu : X.A.units + 64 < cLine) (hx : flat x = true) (hy : flat y = true) (ha : PD X a ρ x ρ1) (hb : PD X b ρ1 y ρ2) : TD X (.Compare a [.NotEq] [b] pos) ρ (!PyData.eqv x y) ρ2 := td_cmp (op_neD hu) (opd_neD hx hy) ha hb (nomark _)
theorem pd_eq (hu : X.A.units + 64 < cLine) (hx : flat x = true) (hy : flat y = true) (ha : PD X a ρ x ρ1) (hb : PD X b ρ1 y ρ2) : PD X (.Compare a [.Eq] [b] pos) ρ (.bool (PyData.eqv x y)) ρ2 := pd_cmp (op_eqD hu) (opd_eqD hx hy) ha hb (nomark _)
theorem pd_ne (hu : X.A.units + 64 < cLine) (hx : flat x = true) (hy : flat y = true) (ha : PD X a ρ x ρ1) (hb : PD X b ρ1 y ρ2) : PD X (.Compare a [.NotEq] [b] pos) ρ (.bool (!PyData.eqv x y)) ρ2 := pd_cmp (op_neD hu) (opd_neD hx hy) ha hb (nomark _)
/-- of ints, of texts -/
theorem td_eqI (ha : PD X a ρ (.int i) ρ1) (hb : PD X b ρ1 (.int j) ρ2) : TD X (.Compare a [.Eq] [b] pos) ρ (decide (i = j)) ρ2 :=
  td_cmp op_eq (fun F H v w Q e r1 r2 q => by rw [rp_int r1, rp_int r2]; exact ⟨rfl, q _ F H (.refl e) (by rw [dec_int, Bool.beq_eq_decide_eq]; exact .bl _)⟩) ha hb (nomark _)
theorem td_neI (ha : PD X a ρ (.int i) ρ1) (hb : PD X b ρ1 (.int j) ρ2) : TD X (.Compare a [.NotEq] [b] pos) ρ (!decide (i = j)) ρ2 :=
  td_cmp op_ne (fun F H v w Q e r1 r2 q => by rw [rp_int r1, rp_int r2]; exact ⟨rfl, q _ F H (.refl e) (by rw [dec_int, Bool.beq_eq_decide_eq]; exact .bl _)⟩) ha hb (nomark _)
theorem td_eqS (ha : PD X a ρ (.str s) ρ1) (hb : PD X b ρ1 (.str t) ρ2) : TD X (.Compare a [.Eq] [b] pos) ρ (decide (s = t)) ρ2 :=
  td_cmp op_eq (fun F H v w Q e r1 r2 q => by rw [rp_str r1, rp_str r2]; exact ⟨rfl, q _ F H (.refl e) (by rw [dec_str, Bool.beq_eq_decide_eq]; exact .bl _)⟩) ha hb (nomark _)
theorem td_neS (ha : PD X a ρ (.str s) ρ1) (hb : PD X b ρ1 (.str t) ρ2) : TD X (.Compare a [.NotEq] [b] pos) ρ (!decide (s = t)) ρ2 :=
  td_cmp op_ne (fun F H v w Q e r1 r2 q => by rw [rp_str r1, rp_str r2]; exact ⟨rfl, q _ F H (.refl e) (by rw [dec_str, Bool.beq_eq_decide_eq]; exact .bl _)⟩) ha hb (nomark _)
theorem pd_eqI (ha : PD X a ρ (.int i) ρ1) (hb : PD X b ρ1 (.int j) ρ2) : PD X (.Compare a [.Eq] [b] pos) ρ (.bool (decide (i = j))) ρ2 :=
  pd_cmp op_eq (fun F H v w Q e r1 r2 q => by rw [rp_int r1, rp_int r2]; exact ⟨rfl, q _ F H (.refl e) (by rw [dec_int, Bool.beq_eq_decide_eq]; exact .bl _)⟩) ha hb (nomark _)
theorem pd_neI (ha : PD X a ρ (.int i) ρ1) (hb : PD X b ρ1 (.int j) ρ2) : PD X (.Compare a [.NotEq] [b] pos) ρ (.bool (!decide (i = j))) ρ2 :=
  pd_cmp op_ne (fun F H v w Q e r1 r2 q => by rw [rp_int r1, rp_int r2]; exact ⟨rfl, q _ F H (.refl e) (by rw [dec_int, Bool.beq_eq_decide_eq]; exact .bl _)⟩) ha hb (nomark _)
theorem pd_eqS (ha : PD X a ρ (.str s) ρ1) (hb : PD X b ρ1 (.str t) ρ2) : PD X (.Compare a [.Eq] [b] pos) ρ (.bool (decide (s = t))) ρ2 :=
  pd_cmp op_eq (fun F H v w Q e r1 r2 q => by rw [rp_str r1, rp_str r2]; exact ⟨rfl, q _ F H (.refl e) (by rw [dec_str, Bool.beq_eq_decide_eq]; exact .bl _)⟩) ha hb (nomark _)
def isNone : PyData → Bool
  | .none => true
  | _ => false
theorem isNone_v {K : PySem.W.Frag} {F : Hp} {v : V} (r : Rp K F v x) : decide (v = V.non) = isNone x := by
  cases r <;> first | rfl | exact decide_eq_false (fun z => nomatch z)
theorem td_isN {k} {p' : Pos} (ha : PD X a ρ x ρ1) : TD X (.Compare a [.Is] [.Constant .none k p'] pos) ρ (isNone x) ρ1 :=
  td_cmp (op_isN) (fun F H v w Q e r1 r2 q => ⟨rp_non r2, q _ F H (.refl e) (by rw [isNone_v r1]; exact .bl _)⟩) ha pd_non (nomark _)
theorem td_notN {k} {p' : Pos} (ha : PD X a ρ x ρ1) : TD X (.Compare a [.IsNot] [.Constant .none k p'] pos) ρ (!isNone x) ρ1 :=
  td_cmp (op_notN) (fun F H v w Q e r1 r2 q => ⟨rp_non r2, q _ F H (.refl e) (by rw [isNone_v r1]; exact .bl _)⟩) ha pd_non (nomark _)
theorem pd_isN {k} {p' : Pos} (ha : PD X a ρ x ρ1) : PD X (.Compare a [.Is] [.Constant .none k p'] pos) ρ (.bool (isNone x)) ρ1 :=
  pd_cmp (op_isN) (fun F H v w Q e r1 r2 q => ⟨rp_non r2, q _ F H (.refl e) (by rw [isNone_v r1]; exact .bl _)⟩) ha pd_non (nomark _)
theorem pd_neg (ha : PD X a ρ (.int i) ρ1) : PD X (.UnaryOp .USub a pos) ρ (.int (-i)) ρ1 := PE_imp (pe_un un_neg ha) fun σ H Q ⟨C, F, e, q⟩ =>
  ⟨C, F, e, fun v F1 H1 x1 e1 r1 => ⟨i, rp_int r1, q _ F1 H1 x1 e1 (.int _)⟩⟩

/-! ### tests -/
variable {k k1 k2 : Bool} {rest : List Expr}
theorem td_val (h : PD X e ρ (.bool k) ρ') (he : ∀ whole, isTrue e X.env whole = (do let v ← whole; standAt e.pos; holding [v] (truthy v)) := by intro _; rfl) : TD X e ρ k ρ' := PT_imp (pt_val h he) fun σ H Q ⟨C, F, se, q⟩ =>
  ⟨C, F, se, fun v F1 H1 x1 e1 r1 => ⟨k, rp_bool r1, q F1 H1 x1 e1⟩⟩
/-- the truth of data -/
def truD : PyData → Bool
  | .none => false
  | .bool b => b
  | .int i => i != 0
  | .str s => s.length != 0
  | .list xs => !xs.isEmpty
  | .tuple xs => !xs.isEmpty
  | .dict kvs => !kvs.isEmpty
theorem td_not (h : TD X a ρ k ρ') : TD X (.UnaryOp .Not a pos) ρ (!k) ρ' := PT_imp (pt_not h) fun σ H Q ⟨C, F, se, q⟩ => ⟨C, F, se, fun F1 H1 x1 e1 => q F1 H1 x1 e1⟩
theorem wd_and1 (h : TD X a ρ k ρ') : WD X (.BoolOp .And [a] pos) ρ k ρ' := pw_and1 h
theorem wd_or1 (h : TD X a ρ k ρ') : WD X (.BoolOp .Or [a] pos) ρ k ρ' := pw_or1 h
theorem wd_and (ha : TD X a ρ k1 ρ1) (hb : k1 = true → WD X (.BoolOp .And (b :: rest) pos) ρ1 k2 ρ1) : WD X (.BoolOp .And (a :: b :: rest) pos) ρ (k1 && k2) ρ1 := by
  cases k1 with
  | true => exact PW_imp (pw_and ha (hb rfl)) fun σ H Q ⟨C, F, se, q⟩ => ⟨C, F, se, fun F1 H1 x1 e1 => by
      refine iteT ?_
      exact ⟨C, F1, e1, fun F2 H2 x2 e2 => q F2 H2 (x1.trans x2) e2⟩⟩
  | false =>
    have hb' : PW X (.BoolOp .And (b :: rest) pos) (fun _ _ _ => False) := ⟨fun _ _ _ _ _ _ _ h => h.elim⟩
    exact PW_imp (pw_and ha hb') fun σ H Q ⟨C, F, se, q⟩ => ⟨C, F, se, fun F1 H1 x1 e1 => by
      refine iteF ?_
      exact q F1 H1 x1 e1⟩
/-- the second changes the slots -/
theorem wd_and_t (ha : TD X a ρ true ρ1) (hb : WD X (.BoolOp .And (b :: rest) pos) ρ1 k2 ρ2) : WD X (.BoolOp .And (a :: b :: rest) pos) ρ k2 ρ2 := PW_imp (pw_and ha hb) fun σ H Q ⟨C, F, se, q⟩ => ⟨C, F, se, fun F1 H1 x1 e1 => by
  refine iteT ?_
  exact ⟨C, F1, e1, fun F2 H2 x2 e2 => q F2 H2 (x1.trans x2) e2⟩⟩
theorem wd_and_f (ha : TD X a ρ false ρ1) : WD X (.BoolOp .And (a :: b :: rest) pos) ρ false ρ1 := by
  have hb' : PW X (.BoolOp .And (b :: rest) pos) (fun _ _ _ => False) := ⟨fun _ _ _ _ _ _ _ h => h.elim⟩
  exact PW_imp (pw_and ha hb') fun σ H Q ⟨C, F, se, q⟩ => ⟨C, F, se, fun F1 H1 x1 e1 => by
    refine iteF ?_
    exact q F1 H1 x1 e1⟩
theorem wd_or_t (ha : TD X a ρ true ρ1) : WD X (.BoolOp .Or (a :: b :: rest) pos) ρ true ρ1 := by
  have hb' : PW X (.BoolOp .Or (b :: rest) pos) (fun _ _ _ => False) := ⟨fun _ _ _ _ _ _ _ h => h.elim⟩
  exact PW_imp (pw_or ha hb') fun σ H Q ⟨C, F, se, q⟩ => ⟨C, F, se, fun F1 H1 x1 e1 => by
    refine iteT ?_
    exact q F1 H1 x1 e1⟩
theorem wd_or_f (ha : TD X a ρ false ρ1) (hb : WD X (.BoolOp .Or (b :: rest) pos) ρ1 k2 ρ2) : WD X (.BoolOp .Or (a :: b :: rest) pos) ρ k2 ρ2 := PW_imp (pw_or ha hb) fun σ H Q ⟨C, F, se, q⟩ => ⟨C, F, se, fun F1 H1 x1 e1 => by
  refine iteF ?_
  exact ⟨C, F1, e1, fun F2 H2 x2 e2 => q F2 H2 (x1.trans x2) e2⟩⟩
theorem wd_or (ha : TD X a ρ k1 ρ1) (hb : k1 = false → WD X (.BoolOp .Or (b :: rest) pos) ρ1 k2 ρ1) : WD X (.BoolOp .Or (a :: b :: rest) pos) ρ (k1 || k2) ρ1 := by
  cases k1 with
  | true => exact wd_or_t ha
  | false => exact wd_or_f ha (hb rfl)
theorem td_w (h : WD X e ρ k ρ') : TD X e ρ k ρ' := h.pt
/-- and, or, not as values -/
theorem pd_not (h : PD X a ρ (.bool k) ρ') : PD X (.UnaryOp .Not a pos) ρ (.bool (!k)) ρ' := PE_imp (pe_not h) fun σ H Q ⟨C, F, se, q⟩ => ⟨C, F, se, fun v F1 H1 x1 e1 r1 => ⟨k, rp_bool r1, q _ F1 H1 x1 e1 (.bl _)⟩⟩
theorem pd_one {op} (h : PD X a ρ x ρ') : PD X (.BoolOp op [a] pos) ρ x ρ' := pe_one h
theorem pd_and_t (ha : PD X a ρ (.bool true) ρ1) (hb : PD X (.BoolOp .And (b :: rest) pos) ρ1 x ρ2) : PD X (.BoolOp .And (a :: b :: rest) pos) ρ x ρ2 := PE_imp (pe_and ha hb) fun σ H Q ⟨C, F, se, q⟩ => ⟨C, F, se, fun v F1 H1 x1 e1 r1 => ⟨true, rp_bool r1, by
  refine iteT ?_
  exact ⟨C, F1, e1, fun w F2 H2 x2 e2 r2 => q w F2 H2 (x1.trans x2) e2 r2⟩⟩⟩
theorem pd_and_f (ha : PD X a ρ (.bool false) ρ1) : PD X (.BoolOp .And (a :: b :: rest) pos) ρ (.bool false) ρ1 := by
  have hb' : PE X (.BoolOp .And (b :: rest) pos) (fun _ _ _ => False) := ⟨fun _ _ _ _ _ _ h => h.elim⟩
  exact PE_imp (pe_and ha hb') fun σ H Q ⟨C, F, se, q⟩ => ⟨C, F, se, fun v F1 H1 x1 e1 r1 => ⟨false, rp_bool r1, by
    refine iteF ?_
    exact q _ F1 H1 x1 e1 (.bl _)⟩⟩
theorem pd_and (ha : PD X a ρ (.bool k1) ρ1) (hb : k1 = true → PD X (.BoolOp .And (b :: rest) pos) ρ1 (.bool k2) ρ1) : PD X (.BoolOp .And (a :: b :: rest) pos) ρ (.bool (k1 && k2)) ρ1 := by
  cases k1 with
  | true => exact pd_and_t ha (hb rfl)
  | false => exact pd_and_f ha
theorem pd_or_f (ha : PD X a ρ (.bool false) ρ1) (hb : PD X (.BoolOp .Or (b :: rest) pos) ρ1 x ρ2) : PD X (.BoolOp .Or (a :: b :: rest) pos) ρ x ρ2 := PE_imp (pe_or ha hb) fun σ H Q ⟨C, F, se, q⟩ => ⟨C, F, se, fun v F1 H1 x1 e1 r1 => ⟨false, rp_bool r1, by
  refine iteF ?_
  exact ⟨C, F1, e1, fun w F2 H2 x2 e2 r2 => q w F2 H2 (x1.trans x2) e2 r2⟩⟩⟩
theorem pd_or_t (ha : PD X a ρ (.bool true) ρ1) : PD X (.BoolOp .Or (a :: b :: rest) pos) ρ (.bool true) ρ1 := by
  have hb' : PE X (.BoolOp .Or (b :: rest) pos) (fun _ _ _ => False) := ⟨fun _ _ _ _ _ _ h => h.elim⟩
  exact PE_imp (pe_or ha hb') fun σ H Q ⟨C, F, se, q⟩ => ⟨C, F, se, fun v F1 H1 x1 e1 r1 => ⟨true, rp_bool r1, by
    refine iteT ?_
    exact q _ F1 H1 x1 e1 (.bl _)⟩⟩
theorem pd_or (ha : PD X a ρ (.bool k1) ρ1) (hb : k1 = false → PD X (.BoolOp .Or (b :: rest) pos) ρ1 (.bool k2) ρ1) : PD X (.BoolOp .Or (a :: b :: rest) pos) ρ (.bool (k1 || k2)) ρ1 := by
  cases k1 with
  | true => exact pd_or_t ha
  | false => exact pd_or_f ha (hb rfl)
theorem pd_if (hc : TD X c ρ k ρ1) (ha : k = true → PD X a ρ1 x ρ2) (hb : k = false → PD X b ρ1 y ρ2) : PD X (.IfExp c a b pos) ρ (if k = true then x else y) ρ2 := by
  cases k with
  | true =>
    have hb' : PE X b (fun _ _ _ => False) := ⟨fun _ _ _ _ _ _ h => h.elim⟩
    exact PE_imp (pe_ifExp hc (ha rfl) hb') fun σ H Q ⟨C, F, se, q⟩ => ⟨C, F, se, fun F1 H1 x1 e1 => by
      refine iteT ?_
      exact ⟨C, F1, e1, fun w F2 H2 x2 e2 r2 => q w F2 H2 (x1.trans x2) e2 (by rw [if_pos rfl]; exact r2)⟩⟩
  | false =>
    have ha' : PE X a (fun _ _ _ => False) := ⟨fun _ _ _ _ _ _ h => h.elim⟩
    exact PE_imp (pe_ifExp hc ha' (hb rfl)) fun σ H Q ⟨C, F, se, q⟩ => ⟨C, F, se, fun F1 H1 x1 e1 => by
      refine iteF ?_
      exact ⟨C, F1, e1, fun w F2 H2 x2 e2 r2 => q w F2 H2 (x1.trans x2) e2 (by rw [if_neg Bool.false_ne_true]; exact r2)⟩⟩
theorem pd_if_t (hc : TD X c ρ true ρ1) (ha : PD X a ρ1 x ρ2) : PD X (.IfExp c a b pos) ρ x ρ2 := by
  have h := pd_if (x := x) (y := x) (b := b) (pos := pos) hc (fun _ => ha) (fun z => nomatch z)
  rw [if_pos rfl] at h; exact h
theorem pd_if_f (hc : TD X c ρ false ρ1) (hb : PD X b ρ1 x ρ2) : PD X (.IfExp c a b pos) ρ x ρ2 := by
  have h := pd_if (x := x) (y := x) (a := a) (pos := pos) hc (fun z => nomatch z) (fun _ => hb)
  rw [if_neg Bool.false_ne_true] at h; exact h

/-! ### displays -/
theorem ad_nil : AD X [] ρ [] ρ := PA_imp pa_nil fun σ H Q ⟨C, F, se, q⟩ => q [] F H (.refl _) se .nil
theorem ad_cons (h : PD X e ρ x ρ1) (hr : AD X es ρ1 xs ρ2) (hs : starEach (e :: es) X.env = (false, eval e X.env) :: starEach es X.env := by rfl) : AD X (e :: es) ρ (x :: xs) ρ2 := PA_imp (pa_cons h hr hs) fun σ H Q ⟨C, F, se, q⟩ =>
  ⟨C, F, se, fun v F1 H1 x1 e1 r1 => ⟨C, F1, e1, fun vs F2 H2 x2 e2 r2 => q (v :: vs) F2 H2 (x1.trans x2) e2 (.cons (r1.mono x2) r2)⟩⟩
theorem line_of {n : Nat} (h : n ≤ 100000) : n ≤ sizeLine := Nat.le_trans h (by decide)
theorem line_lt {n : Nat} (h : n < 100000) : n < sizeLine := Nat.lt_of_lt_of_le h (by decide)
theorem pd_tup {x1} (h : AD X es ρ xs ρ') (hl : xs.length ≤ 100000 := by exact Nat.le_of_ble_eq_true rfl) : PD X (.Tuple es x1 pos) ρ (.tuple xs) ρ' := PE_imp (pe_tup h) fun σ H Q ⟨C, F, se, q⟩ =>
  ⟨C, F, se, fun vs F1 H1 x1 e1 r1 => ⟨by rw [r1.length]; exact line_of hl, fun p hp => q (.ref p) _ _ (x1.trans (.new (e1.fr.ext.none hp))) (e1.grow (.push e1.fr.ext hp)) (.tup upd_same (r1.mono (.new (e1.fr.ext.none hp))))⟩⟩
/-- a new object is laid -/
theorem SE.lay {K : PySem.W.Frag} {C : Cn} {F H : Hp} {σ : L2.St} {ρ : En} (e : SE K C F H σ ρ) {p : Addr} {o : HO} (hp : H p = none) : SE K C F (upd H p o) σ ρ ∧ F p = none ∧ C.H0 p = none ∧ (∀ j, ¬ Owns σ ρ j p) :=
  ⟨e.grow (.side e.fr.ext hp), e.fr.ext.none hp, e.fr.there p hp, not_owns_new e hp⟩
theorem pn_lst (h : AD X es ρ xs ρ') (hl : xs.length ≤ 100000 := by exact Nat.le_of_ble_eq_true rfl) : PN X (.List es pos) ρ (.l xs) ρ' := PE_imp (pe_lst h) fun σ H Q ⟨C, F, se, q⟩ =>
  ⟨C, F, se, fun vs F1 H1 x1 e1 r1 => ⟨by rw [r1.length]; exact line_of hl, fun p hp => by
    obtain ⟨a, b, c, d⟩ := e1.lay (o := .lst vs) hp
    exact q p F1 _ x1 a b c d ⟨vs, upd_same, r1⟩⟩⟩
theorem pn_dict : PN X (.Dict [] [] pos) ρ (.d []) ρ := PE_imp pe_dnewK fun σ H Q ⟨C, F, se, q⟩ p hp => by
  obtain ⟨a, b, c, d⟩ := se.lay (o := .dK []) hp
  exact q p F _ (.refl _) a b c d ⟨[], upd_same, rfl, .nil⟩
theorem pn_dictT : PN X (.Dict [] [] pos) ρ (.t []) ρ := PE_imp pe_dnewT fun σ H Q ⟨C, F, se, q⟩ p hp => by
  obtain ⟨a, b, c, d⟩ := se.lay (o := .dT []) hp
  exact q p F _ (.refl _) a b c d ⟨[], upd_same, rfl, .nil⟩

/-! ### subscripts -/
theorem atI_rp {K : PySem.W.Frag} {F : Hp} {vs : List V} (r : RpA K F vs xs) (h : atI xs i = some x) : ∃ v, atI vs i = some v ∧ Rp K F v x := by
  unfold atI at h ⊢
  rw [r.length]
  cases q : ixN xs.length i with
  | none => rw [q] at h; cases h
  | some n => rw [q] at h; exact r.get (by simpa using h)
theorem pd_ixL {src : Option Nat} (h : atI xs i = some x) (ok : SrcOk ρ2 src xs) (ha : PQ X a ρ src xs ρ1) (hb : PD X b ρ1 (.int i) ρ2) (hs : PlainIx b := by intro _ _; rfl) : PD X (.Subscript a b pos) ρ x ρ2 := PE_imp (pe_ix ix_list ha hb hs) fun σ H Q ⟨C, F, se, q⟩ =>
  ⟨C, F, se, fun v F1 H1 x1 e1 s1 => ⟨C, F1, e1, fun w F2 H2 x2 e2 r2 => by
    obtain ⟨p, vs, rfl, l, r⟩ := (s1.mono x2).look e2 ok
    obtain ⟨u, h1, h2⟩ := atI_rp r h
    exact ⟨p, vs, i, u, rfl, rp_int r2, l, h1, q u F2 H2 (x1.trans x2) e2 h2⟩⟩⟩
theorem pd_ixT (h : atI xs i = some x) (ha : PD X a ρ (.tuple xs) ρ1) (hb : PD X b ρ1 (.int i) ρ2) (hs : PlainIx b := by intro _ _; rfl) : PD X (.Subscript a b pos) ρ x ρ2 := PE_imp (pe_ix ix_tup ha hb hs) fun σ H Q ⟨C, F, se, q⟩ =>
  ⟨C, F, se, fun v F1 H1 x1 e1 r1 => ⟨C, F1, e1, fun w F2 H2 x2 e2 r2 => by
    cases r1 with
    | tup h1 h2 =>
      obtain ⟨u, h3, h4⟩ := atI_rp h2 h
      exact ⟨_, _, i, u, rfl, rp_int r2, SqT.of (e2.fr.ext _ _ (x2 _ _ h1)), h3, q u F2 H2 (x1.trans x2) e2 (h4.mono x2)⟩⟩⟩
theorem pd_ixS {c : Nat} (hl : s.length ≤ 100000) (h : atI s.cps.toList i = some c) (ha : PD X a ρ (.str s) ρ1) (hb : PD X b ρ1 (.int i) ρ2) (hs : PlainIx b := by intro _ _; rfl) : PD X (.Subscript a b pos) ρ (.str ⟨#[c]⟩) ρ2 := PE_imp (pe_ix ix_str ha hb hs) fun σ H Q ⟨C, F, se, q⟩ =>
  ⟨C, F, se, fun v F1 H1 x1 e1 r1 => ⟨C, F1, e1, fun w F2 H2 x2 e2 r2 => ⟨s, i, c, rp_str r1, rp_int r2, line_of hl, h, q _ F2 H2 (x1.trans x2) e2 (.str _)⟩⟩⟩
end
end G

/-! GStmt: statements, blocks, loops, defs in words of data. -/
namespace G
open PySem PySem.Spec PyProof.Rows L2

/-- an exception's own dict -/
def ExRep (K : PySem.W.Frag) (F H : Hp) (d : Option Addr) (fs : List (Str × PyData)) : Prop :=
  match d with
  | none => fs = []
  | some dd => fs ≠ [] ∧ ∃ vs, H dd = some (.xd vs) ∧ KvA K F vs fs
/-- what is wanted behind a statement -/
structure DE where
  nx : En → Prop := fun _ => False
  rt : PyData → En → Prop := fun _ _ => False
  ex : Value → List (Str × PyData) → En → Prop := fun _ _ _ => False
  bk : En → Prop := fun _ => False
  ct : En → Prop := fun _ => False
  rn : Ct → En → Prop := fun _ _ => False
  rq : Ct → Ct → En → Prop := fun _ _ _ => False
  rz : (Hp → Hp → Hp → V → Prop) → En → Prop := fun _ _ => False
structure Cov (K : PySem.W.Frag) (W : WX) (C : Cn) (D : DE) (E : Ends) : Prop where
  nx : ∀ ρ' F' H' σ', D.nx ρ' → SE K C F' H' σ' ρ' → E.nx σ' H'
  rt : ∀ x ρ' v F' H' σ', D.rt x ρ' → SE K C F' H' σ' ρ' → Rp K F' v x → E.rt v H'
  ex : ∀ c fs ρ' d F' H' σ', D.ex c fs ρ' → SE K C F' H' σ' ρ' → ExRep K F' H' d fs → W c d σ' H'
  bk : ∀ ρ' F' H' σ', D.bk ρ' → SE K C F' H' σ' ρ' → E.bk σ' H'
  ct : ∀ ρ' F' H' σ', D.ct ρ' → SE K C F' H' σ' ρ' → E.ct σ' H'
  rn : ∀ c ρ' p F' H' σ', D.rn c ρ' → SE K C F' H' σ' ρ' → F' p = none → C.H0 p = none → Own1 K F' H' p c → E.rt (.ref p) H'
  rq : ∀ c c2 ρ' t p q F' H' σ', D.rq c c2 ρ' → SE K C F' H' σ' ρ' → H' t = some (.tup [.ref p, .ref q]) → F' p = none → F' q = none → C.H0 p = none → C.H0 q = none → p ≠ q → Own1 K F' H' p c → Own1 K F' H' q c2 → E.rt (.ref t) H'
  rz : ∀ P ρ' v F' H' σ', D.rz P ρ' → SE K C F' H' σ' ρ' → P C.H0 F' H' v → E.rt v H'
def tD (K : PySem.W.Frag) (W : WX) (ρ : En) (D : DE) : TS := fun E σ H => ∃ C F, SE K C F H σ ρ ∧ Cov K W C D E
abbrev SD (X : Cx) (W : WX) (st : Stmt) (ρ : En) (D : DE) : Prop := PS X st (tD X.K W ρ D)
abbrev BD (X : Cx) (W : WX) (sts : List Stmt) (ρ : En) (D : DE) : Prop := PSs X sts (tD X.K W ρ D)

section
variable {X : Cx} {W : WX} {e a b c : Expr} {es : List Expr} {pos pos' : Pos} {ρ ρ' ρ1 ρ2 ρ3 : En} {x y z : PyData} {xs ys : List PyData} {st : Stmt} {rest A B body : List Stmt} {D : DE} {k : Bool} {i j : Nat} {w : Str}

/-! ### blocks -/
theorem bd_nil (h : D.nx ρ) : BD X W [] ρ D := PSs_imp pss_nil fun E σ H ⟨C, F, se, cv⟩ => cv.nx ρ F H σ h se
theorem bd_cut (M : En → Prop) (h1 : SD X W st ρ { D with nx := M }) (h2 : ∀ ρ1, M ρ1 → BD X W rest ρ1 D) : BD X W (st :: rest) ρ D := by
  have h2' : PSs X rest (fun E σ H => ∃ p : { ρ1 // M ρ1 }, tD X.K W p.1 D E σ H) := PSs_ex fun p => h2 p.1 p.2
  exact PSs_imp (pss_cons h1 h2') fun E σ H ⟨C, F, se, cv⟩ => ⟨C, F, se, ⟨fun ρ' F' H' σ' m s => ⟨⟨ρ', m⟩, C, F', s, cv⟩, cv.rt, cv.ex, cv.bk, cv.ct, cv.rn, cv.rq, cv.rz⟩⟩
theorem bd_seq (h1 : SD X W st ρ { D with nx := fun r => r = ρ1 }) (h2 : BD X W rest ρ1 D) : BD X W (st :: rest) ρ D := bd_cut (fun r => r = ρ1) h1 fun _ q => by subst q; exact h2
theorem bd_one (h1 : SD X W st ρ D) : BD X W [st] ρ D := pss_one h1
/-- less is known ahead, more is wanted behind -/
theorem tD_le {K : PySem.W.Frag} {E : Ends} {σ : L2.St} {H : Hp} (h : Le ρ' ρ) (t : tD K W ρ D E σ H) : tD K W ρ' D E σ H := by
  obtain ⟨C, F, se, cv⟩ := t
  exact ⟨C, F, se.le h, cv⟩
theorem bd_le (h : Le ρ' ρ) (b : BD X W rest ρ' D) : BD X W rest ρ D := PSs_imp b fun E σ H t => tD_le h t
theorem sd_le (h : Le ρ' ρ) (b : SD X W st ρ' D) : SD X W st ρ D := PS_imp b fun E σ H t => tD_le h t
structure DE.Le (D D' : DE) : Prop where
  nx : ∀ ρ, D.nx ρ → D'.nx ρ := by intro _ h; exact h
  rt : ∀ x ρ, D.rt x ρ → D'.rt x ρ := by intro _ _ h; exact h
  ex : ∀ c f ρ, D.ex c f ρ → D'.ex c f ρ := by intro _ _ _ h; exact h
  bk : ∀ ρ, D.bk ρ → D'.bk ρ := by intro _ h; exact h
  ct : ∀ ρ, D.ct ρ → D'.ct ρ := by intro _ h; exact h
  rn : ∀ c ρ, D.rn c ρ → D'.rn c ρ := by intro _ _ h; exact h
  rq : ∀ c c2 ρ, D.rq c c2 ρ → D'.rq c c2 ρ := by intro _ _ _ h; exact h
  rz : ∀ P ρ, D.rz P ρ → D'.rz P ρ := by intro _ _ h; exact h
theorem Cov.le {K : PySem.W.Frag} {C : Cn} {E : Ends} {D D' : DE} (l : D.Le D') (h : Cov K W C D' E) : Cov K W C D E :=
  ⟨fun r _ _ _ q => h.nx r _ _ _ (l.nx r q), fun x r _ _ _ _ q => h.rt x r _ _ _ _ (l.rt x r q), fun c f r _ _ _ _ q => h.ex c f r _ _ _ _ (l.ex c f r q), fun r _ _ _ q => h.bk r _ _ _ (l.bk r q), fun r _ _ _ q => h.ct r _ _ _ (l.ct r q), fun c r p _ _ _ q => h.rn c r p _ _ _ (l.rn c r q), fun c c2 r t p q _ _ _ d => h.rq c c2 r t p q _ _ _ (l.rq c c2 r d), fun P r _ _ _ _ q => h.rz P r _ _ _ _ (l.rz P r q)⟩
theorem sd_post {D' : DE} (l : D.Le D') (h : SD X W st ρ D) : SD X W st ρ D' := PS_imp h fun E σ H ⟨C, F, se, cv⟩ => ⟨C, F, se, cv.le l⟩
theorem bd_post {D' : DE} (l : D.Le D') (h : BD X W rest ρ D) : BD X W rest ρ D' := PSs_imp h fun E σ H ⟨C, F, se, cv⟩ => ⟨C, F, se, cv.le l⟩

/-! ### small statements -/
theorem sd_pass (h : D.nx ρ) : SD X W (.Pass pos) ρ D := PS_imp ps_pass fun E σ H ⟨C, F, se, cv⟩ => cv.nx ρ F H σ h se
theorem sd_break (h : D.bk ρ) : SD X W (.Break pos) ρ D := PS_imp ps_break fun E σ H ⟨C, F, se, cv⟩ => cv.bk ρ F H σ h se
theorem sd_cont (h : D.ct ρ) : SD X W (.Continue pos) ρ D := PS_imp ps_continue fun E σ H ⟨C, F, se, cv⟩ => cv.ct ρ F H σ h se
theorem sd_ret (he : PD X e ρ x ρ1) (h : D.rt x ρ1) : SD X W (.Return (some e) pos) ρ D := PS_imp (ps_ret he) fun E σ H ⟨C, F, se, cv⟩ => ⟨C, F, se, fun v F1 H1 _ e1 r1 => cv.rt x ρ1 v F1 H1 σ h e1 r1⟩
/-- a new object is given back -/
theorem sd_retO {c : Ct} (he : PN X e ρ c ρ1) (h : D.rn c ρ1) : SD X W (.Return (some e) pos) ρ D := PS_imp (ps_ret he) fun E σ H ⟨C, F, se, cv⟩ => ⟨C, F, se, fun p F1 H1 _ e1 fp h0 _ r1 => cv.rn c ρ1 p F1 H1 σ h e1 fp h0 r1⟩
/-- .. that a name holds -/
theorem sd_retV {c : Ct} (i : Nat) (h0 : ρ[i]? = some (.o none c)) (h : D.rn c ρ) (hN : X.N[i]? = some w := by rfl) (hv : Vis X.env.scope w := by first | exact Or.inl rfl | exact Or.inr (Or.inl rfl) | exact Or.inr (Or.inr rfl)) (hd : (w == ("__debug__" : Str)) = false := by decide) (hcd : (w == ("__classdict__" : Str)) = false := by decide) : SD X W (.Return (some (.Name w pos')) pos) ρ D :=
  PS_imp (ps_ret (pe_var hN hv hd hcd)) fun E σ H ⟨C, F, se, cv⟩ => by
    obtain ⟨l, a1, _, a3, a4⟩ := se.getO h0
    exact ⟨.ref l, a1, cv.rn c ρ l F H σ h se (se.own i l a4).1 (se.fresh i l c h0 a1) a3⟩
/-- a list that a name owns becomes data, as it is read -/
theorem pd_thaw {xs : List PyData} (i : Nat) (h0 : ρ[i]? = some (.ol xs)) (hN : X.N[i]? = some w := by rfl) (hv : Vis X.env.scope w := by first | exact Or.inl rfl | exact Or.inr (Or.inl rfl) | exact Or.inr (Or.inr rfl)) (hd : (w == ("__debug__" : Str)) = false := by decide) (hcd : (w == ("__classdict__" : Str)) = false := by decide) : PD X (.Name w pos) ρ (.list xs) (ρ.set i (.d (.list xs))) :=
  PE_imp (pe_var hN hv hd hcd) fun σ H Q ⟨C, F, se, q⟩ => by
    obtain ⟨l, a1, _, ⟨vs, a3, a5⟩, a4⟩ := se.getO h0
    have fl := (se.own i l a4).1
    have r : Rp X.K (L2.upd F l (.lst vs)) (.ref l) (.list xs) := .lst (SqL.of upd_same) (a5.mono (.new fl))
    exact ⟨.ref l, a1, q _ _ H (.new fl) (se.thaw h0 a1 a3 r) r⟩
/-- .. ahead of a statement -/
theorem bd_thaw {xs : List PyData} (i : Nat) (h0 : ρ[i]? = some (.ol xs)) (h : BD X W rest (ρ.set i (.d (.list xs))) D) : BD X W rest ρ D := PSs_imp h fun E σ H ⟨C, F, se, cv⟩ => by
    obtain ⟨l, a1, _, ⟨vs, a3, a5⟩, a4⟩ := se.getO h0
    have fl := (se.own i l a4).1
    have r : Rp X.K (L2.upd F l (.lst vs)) (.ref l) (.list xs) := .lst (SqL.of upd_same) (a5.mono (.new fl))
    exact ⟨C, _, se.thaw h0 a1 a3 r, cv⟩
theorem sd_retN (h : D.rt .none ρ) : SD X W (.Return none pos) ρ D := PS_imp ps_retN fun E σ H ⟨C, F, se, cv⟩ => cv.rt _ ρ _ F H σ h se .non
theorem sd_expr (he : PD X e ρ x ρ1) (h : D.nx ρ1) (hs : swapsWith e none pos.line X.env = pure false := by rfl) : SD X W (.Expr e pos) ρ D := PS_imp (ps_expr he hs) fun E σ H ⟨C, F, se, cv⟩ => ⟨C, F, se, fun v F1 H1 _ e1 r1 => cv.nx ρ1 F1 H1 σ h e1⟩
theorem sd_if (hc : TD X c ρ k ρ1) (ha : k = true → BD X W A ρ1 D) (hb : k = false → BD X W B ρ1 D) : SD X W (.If c A B pos) ρ D := by
  have nv : ∀ sts, PSs X sts (fun _ _ _ => False) := fun sts => ⟨fun _ _ _ _ _ _ h => h.elim⟩
  cases k with
  | true => exact PS_imp (ps_if hc (ha rfl) (nv B)) fun E σ H ⟨C, F, se, cv⟩ => ⟨C, F, se, fun F1 H1 x1 e1 => iteT ⟨C, F1, e1, cv⟩⟩
  | false => exact PS_imp (ps_if hc (nv A) (hb rfl)) fun E σ H ⟨C, F, se, cv⟩ => ⟨C, F, se, fun F1 H1 x1 e1 => iteF ⟨C, F1, e1, cv⟩⟩
/-- a guard: it ends -/
theorem bd_guard (hc : TD X c ρ k ρ1) (ha : k = true → BD X W A ρ1 { D with nx := fun _ => False }) (hb : k = false → BD X W rest ρ1 D) : BD X W (.If c A [] pos :: rest) ρ D :=
  bd_cut (fun r => r = ρ1 ∧ k = false) (sd_if hc (fun q => bd_post (D := { D with nx := fun _ => False }) { nx := fun _ z => False.elim z } (ha q)) fun q => bd_nil ⟨rfl, q⟩) fun _ q => by
    obtain ⟨rfl, q⟩ := q
    exact hb q
/-- x = e, e data -/
theorem sd_set (i : Nat) (he : PD X e ρ x ρ1) (h : D.nx (ρ1.set i (.d x))) (hN : X.N.Nodup) (hi : X.N[i]? = some w := by rfl) (hx : Loc X.env.scope w := by first | exact Or.inl rfl | exact Or.inr rfl)
    (hf : X.fn w = true ∨ X.env.scope.names.lookup w = some .local := by first | exact .inl rfl | exact .inr rfl) (hs : swapsWith e (some (.Name w pos')) pos.line X.env = pure false := by rfl) : SD X W (.Assign [.Name w pos'] e pos) ρ D :=
  PS_imp (ps_set hN hi hx he hs hf) fun E σ H ⟨C, F, se, cv⟩ => ⟨C, F, se, fun v F1 H1 _ e1 r1 => cv.nx _ F1 H1 _ h (e1.setD r1)⟩
/-- x = e, e a new object that the body goes on changing -/
theorem sd_setN (i : Nat) {s : Ct} (he : PN X e ρ s ρ1) (h : D.nx (ρ1.set i (.o none s))) (hN : X.N.Nodup) (hi : X.N[i]? = some w := by rfl) (hx : Loc X.env.scope w := by first | exact Or.inl rfl | exact Or.inr rfl)
    (hf : X.fn w = true ∨ X.env.scope.names.lookup w = some .local := by first | exact .inl rfl | exact .inr rfl) (hs : swapsWith e (some (.Name w pos')) pos.line X.env = pure false := by rfl) : SD X W (.Assign [.Name w pos'] e pos) ρ D :=
  PS_imp (ps_set hN hi hx he hs hf) fun E σ H ⟨C, F, se, cv⟩ => ⟨C, F, se, fun p F1 H1 _ e1 fp h0 no r1 => cv.nx _ F1 H1 _ h (e1.setOwn fp h0 no r1)⟩
/-- found.append(e) -/
theorem sd_append (i : Nat) {o : Str} {p1 p2 p3 : Pos} {pa pb : Option Addr} (h0 : ρ[i]? = some (.o pa (.l ys))) (he : PD X e ρ x ρ1) (h1 : ρ1[i]? = some (.o pb (.l xs))) (hl : xs.length < 100000) (h : D.nx (ρ1.set i (.o pb (.l (xs ++ [x])))))
    (hN : X.N[i]? = some o := by rfl) (hv : Vis X.env.scope o := by first | exact Or.inl rfl | exact Or.inr (Or.inl rfl) | exact Or.inr (Or.inr rfl)) (hd : (o == ("__debug__" : Str)) = false := by decide) (hcd : (o == ("__classdict__" : Str)) = false := by decide)
    (hbase : attributeBase (.Name o p1) "append" X.env (eval (.Name o p1) X.env) = eval (.Name o p1) X.env := by rfl)
    (hfew : ((backTo p3 (starEach [e] X.env)).all (fun x => !x.1) && (backToKw p3 (keywordEach [] X.env)).all (fun x => x.1.isSome)
      && decide ([e].length + ([] : List Keyword).length + (if ([] : List Keyword).isEmpty then 0 else 1) < 30)) = true := by rfl)
    (hline : (p2.endLine == p3.line) = true := by rfl) (hs : starEach [e] X.env = (false, eval e X.env) :: starEach [] X.env := by rfl)
    (hsw : swapsWith (.Call (.Attribute (.Name o p1) "append" p2) [e] [] p3) none pos.line X.env = pure false := by rfl) :
    SD X W (.Expr (.Call (.Attribute (.Name o p1) "append" p2) [e] [] p3) pos) ρ D := by
  refine PS_imp (ps_expr (pe_bm PySem.F.plainAttrs_list PySem.F.slot_list_append PySem.F.type_list_append mt_append (pe_var hN hv hd hcd) (pa_cons he pa_nil hs) hbase hfew hline hs (by rfl)) hsw) fun E σ H ⟨C, F, se, cv⟩ => ?_
  obtain ⟨l, a1, _, ⟨vs, a2, a3⟩, a4⟩ := se.getO h0
  refine ⟨.ref l, a1, .inl ⟨rfl, vs, SqL.of a2⟩, C, F, se, fun v F1 H1 x1 e1 r1 => ?_⟩
  obtain ⟨l', b1, _, ⟨us, b2, b3⟩, b4⟩ := e1.getO h1
  rw [a1] at b1
  cases b1
  refine ⟨l, us, v, rfl, rfl, b2, by rw [b3.length]; exact line_lt hl, cv.nx _ F1 _ _ h ?_⟩
  exact e1.wr h1 a1 ⟨us ++ [v], upd_same, b3.append (.cons r1 .nil)⟩
/-- xs[j] = e, xs a name that owns its list -/
theorem sd_setix (i : Nat) {o : Str} {p1 p2 : Pos} {pa pb : Option Addr} {ix : Int} {n : Nat} (he : PD X e ρ x ρ1) (h0 : ρ1[i]? = some (.o pa (.l ys))) (hix : PD X a ρ1 (.int ix) ρ2) (h1 : ρ2[i]? = some (.o pb (.l xs))) (hn : ixN xs.length ix = some n) (h : D.nx (ρ2.set i (.o pb (.l (xs.set n x)))))
    (hN : X.N[i]? = some o := by rfl) (hv : Vis X.env.scope o := by first | exact Or.inl rfl | exact Or.inr (Or.inl rfl) | exact Or.inr (Or.inr rfl)) (hd : (o == ("__debug__" : Str)) = false := by decide) (hcd : (o == ("__classdict__" : Str)) = false := by decide)
    (hg : ∀ v, assign (.Subscript (.Name o p1) a p2) X.env v = (do
      let ov ← holding [v] (eval (.Name o p1) X.env)
      let iv ← holding [v, ov] (eval a X.env)
      standAt p2
      holding [v, ov, iv] (setItem ov iv v)
      release [v, ov, iv] []) := by intro _; rfl)
    (hs : swapsWithSole [.Subscript (.Name o p1) a p2] e pos.line X.env = pure false := by rfl) (hw : swappedStores [.Subscript (.Name o p1) a p2] e X.env = pure none := by rfl)
    (hm : (assignEach [.Subscript (.Name o p1) a p2] X.env).map (·.2) = [assign (.Subscript (.Name o p1) a p2) X.env] := by rfl) :
    SD X W (.Assign [.Subscript (.Name o p1) a p2] e pos) ρ D := by
  refine PS_imp (ps_asg he (pg_sub (pe_var hN hv hd hcd) hix set_list hg) hs hw hm) fun E σ H ⟨C, F, se, cv⟩ => ?_
  refine ⟨C, F, se, fun v F1 H1 x1 e1 r1 => ?_⟩
  obtain ⟨l, a1, _, ⟨vs, a2, a3⟩, a4⟩ := e1.getO h0
  refine ⟨.ref l, a1, C, F1, e1, fun u F2 H2 x2 e2 r2 => ?_⟩
  obtain ⟨l', b1, _, ⟨us, b2, b3⟩, b4⟩ := e2.getO h1
  rw [a1] at b1
  cases b1
  refine ⟨l, us, ix, n, rfl, rp_int r2, b2, by rw [b3.length]; exact hn, cv.nx _ F2 _ _ h ?_⟩
  exact e2.wr h1 a1 ⟨us.set n v, upd_same, b3.set n (r1.mono x2)⟩

/-! ### targets -/
def tG (K : PySem.W.Frag) (d : PyData) (ρ ρ' : En) : TG := fun v σ H Q => ∃ C F, SE K C F H σ ρ ∧ Rp K F v d ∧ ∀ σ' F' H', Ex F F' → SE K C F' H' σ' ρ' → Q σ' H'
abbrev GD (X : Cx) (tg : Expr) (d : PyData) (ρ ρ' : En) : Prop := PG X tg (tG X.K d ρ ρ')
def tGs (K : PySem.W.Frag) (ds : List PyData) (ρ ρ' : En) : TGs := fun vs σ H Q => ∃ C F, SE K C F H σ ρ ∧ RpA K F vs ds ∧ ∀ σ' F' H', Ex F F' → SE K C F' H' σ' ρ' → Q σ' H'
abbrev GsD (X : Cx) (tg : List Expr) (d : List PyData) (ρ ρ' : En) : Prop := PGs X tg (tGs X.K d ρ ρ')
theorem PG_imp {t t' : TG} (h : PG X e t) (i : ∀ v σ H Q, t' v σ H Q → t v σ H Q) : PG X e t' := ⟨fun pins s σ H v u Q I r q => h.run pins s σ H v u Q I r (i _ _ _ _ q)⟩
theorem PGs_imp {t t' : TGs} (h : PGs X es t) (i : ∀ v σ H Q, t' v σ H Q → t v σ H Q) : PGs X es t' := ⟨fun pins s σ H v u Q I r q => h.run pins s σ H v u Q I r (i _ _ _ _ q)⟩
theorem PG_ex {ι : Type} {t : ι → TG} (h : ∀ i, PG X e (t i)) : PG X e (fun v σ H Q => ∃ i, t i v σ H Q) := ⟨fun pins s σ H v u Q I r ⟨i, q⟩ => (h i).run pins s σ H v u Q I r q⟩
theorem gd_name (i : Nat) (hN : X.N.Nodup) (hi : X.N[i]? = some w := by rfl) (hx : Loc X.env.scope w := by first | exact Or.inl rfl | exact Or.inr rfl)
    (hf : X.fn w = true ∨ X.env.scope.names.lookup w = some .local := by first | exact .inl rfl | exact .inr rfl) : GD X (.Name w pos) x ρ (ρ.set i (.d x)) := PG_imp (pg_name hN hi hx hf) fun v σ H Q ⟨C, F, se, r, q⟩ => q _ F H (.refl _) (se.setD r)
theorem gsd_nil : GsD X [] [] ρ ρ := PGs_imp pgs_nil fun v σ H Q ⟨C, F, se, r, q⟩ => ⟨by cases r; rfl, q _ F H (.refl _) se⟩
theorem gsd_cons (h : GD X e x ρ ρ1) (hr : GsD X es xs ρ1 ρ2) (hs : (assignEach (e :: es) X.env).map (·.2) = assign e X.env :: (assignEach es X.env).map (·.2) := by rfl) : GsD X (e :: es) (x :: xs) ρ ρ2 := PGs_imp (pgs_cons h hr hs) fun v σ H Q ⟨C, F, se, r, q⟩ => by
  cases r with
  | cons r1 r2 => exact ⟨_, _, rfl, C, F, se, r1, fun σ1 F1 H1 x1 e1 => ⟨C, F1, e1, r2.mono x1, fun σ2 F2 H2 x2 e2 => q σ2 F2 H2 (x1.trans x2) e2⟩⟩
theorem gd_tup {kk : Nat} (hc : X.calm = true) (h : GsD X es xs ρ ρ') (hn : (assignEach es X.env).length = xs.length := by rfl) (hst : (assignEach es X.env).findIdx? (·.1) = none := by rfl) : GD X (.Tuple es kk pos) (.tuple xs) ρ ρ' := PG_imp (pg_tup hc h hn hst) fun v σ H Q ⟨C, F, se, r, q⟩ => by
  cases r with
  | tup h1 h2 => exact ⟨_, _, rfl, SqT.of (se.fr.ext _ _ h1), h2.length, C, F, se, h2, q⟩
/-- a, b = e -/
theorem sd_unpack (he : PD X e ρ x ρ1) (hg : GD X a x ρ1 ρ2) (h : D.nx ρ2) (hs : swapsWithSole [a] e pos.line X.env = pure false := by rfl) (hw : swappedStores [a] e X.env = pure none := by rfl)
    (h1 : (assignEach [a] X.env).map (·.2) = [assign a X.env] := by rfl) : SD X W (.Assign [a] e pos) ρ D := PS_imp (ps_asg he hg hs hw h1) fun E σ H ⟨C, F, se, cv⟩ =>
  ⟨C, F, se, fun v F1 H1 _ e1 r1 => ⟨C, F1, e1, r1, fun σ2 F2 H2 _ e2 => cv.nx ρ2 F2 H2 σ2 h e2⟩⟩

/-! ### what is walked -/
/-- the items that come, as long as ok holds of the slots -/
structure Wk (K : PySem.W.Frag) (F0 : Hp) (σ0 : L2.St) (J : It) (its : List PyData) (ok : En → Prop) (own : Option Nat) : Prop where
  go : ∀ i C F H σ ρ, Ex F0 F → SE K C F H σ ρ → ok ρ → (∀ j, own = some j → σ[j]? = σ0[j]?) → i < its.length → J.go i H
  stop : ∀ C F H σ ρ, Ex F0 F → SE K C F H σ ρ → ok ρ → (∀ j, own = some j → σ[j]? = σ0[j]?) → J.stop its.length H
  yld : ∀ i C F H σ ρ v H1, Ex F0 F → SE K C F H σ ρ → ok ρ → (∀ j, own = some j → σ[j]? = σ0[j]?) → i < its.length → J.yld i H v H1 → ∃ d F1, its[i]? = some d ∧ Ex F F1 ∧ SE K C F1 H1 σ ρ ∧ Rp K F1 v d
def tI (K : PySem.W.Frag) (ρ : En) (its : List PyData) (ok : En → Prop) (own : Option Nat) (ρ' : En) : TI := fun σ H R => ∃ C F, SE K C F H σ ρ ∧ ∀ J F' H', Ex F F' → SE K C F' H' σ ρ' → Wk K F' σ J its ok own → R J H'
abbrev ID (X : Cx) (tg iter : Expr) (ρ : En) (its : List PyData) (ok : En → Prop) (own : Option Nat) (ρ' : En) : Prop := PI X tg iter (tI X.K ρ its ok own ρ')
theorem PI_imp {tg : Expr} {t t' : TI} (h : PI X tg e t) (i : ∀ σ H Q, t' σ H Q → t σ H Q) : PI X tg e t' := ⟨fun pins s σ H Q I q => h.run pins s σ H Q I (i _ _ _ q)⟩
theorem id_list {tg : Expr} {src : Option Nat} (h : PQ X e ρ src xs ρ') (ok' : SrcOk ρ' src xs) : ID X tg e ρ xs (fun r => SrcOk r src xs) src ρ' := PI_imp (pi_list h) fun σ H R ⟨C, F, se, q⟩ => by
  refine ⟨C, F, se, fun v F1 H1 x1 e1 s1 => ?_⟩
  obtain ⟨a, vs, rfl, l1, r1⟩ := s1.look e1 ok'
  have key : ∀ C F2 H2 σ2 ρ2, Ex F1 F2 → SE X.K C F2 H2 σ2 ρ2 → SrcOk ρ2 src xs → (∀ j, src = some j → σ2[j]? = σ[j]?) → ∃ us, SqL X.K H2 a us ∧ RpA X.K F2 us xs := fun C F2 H2 σ2 ρ2 x2 e2 ok2 hs => by
    have s2 : SrcV X.K F2 σ2 src (.ref a) xs := by
      cases src with
      | none => exact SrcV.mono (σ := σ) (src := none) x2 s1
      | some j =>
        obtain ⟨b, eb, hb⟩ := s1
        cases eb
        exact ⟨a, rfl, by rw [hs j rfl]; exact hb⟩
    obtain ⟨b, us, eb, l2, r2⟩ := s2.look e2 ok2
    cases eb
    exact ⟨us, l2, r2⟩
  refine ⟨a, rfl, ⟨vs, l1⟩, q _ F1 H1 x1 e1 ⟨fun i C F2 H2 σ2 ρ2 x2 e2 ok2 hs hi => ?_, fun C F2 H2 σ2 ρ2 x2 e2 ok2 hs => ?_, fun i C F2 H2 σ2 ρ2 v H3 x2 e2 ok2 hs hi y => ?_⟩⟩
  · obtain ⟨us, l2, r2⟩ := key C F2 H2 σ2 ρ2 x2 e2 ok2 hs
    have hl := r2.length
    exact walk_list.goes i H2 (by rw [hl]; exact hi) l2
  · obtain ⟨us, l2, r2⟩ := key C F2 H2 σ2 ρ2 x2 e2 ok2 hs
    rw [← r2.length]
    exact walk_list.stops H2 l2
  · obtain ⟨us, l2, r2⟩ := key C F2 H2 σ2 ρ2 x2 e2 ok2 hs
    obtain ⟨rfl, h3⟩ := walk_list.yields i H2 v H3 (by rw [r2.length]; exact hi) l2 y
    obtain ⟨d, h4, h5⟩ := r2.getV h3
    exact ⟨d, F2, h4, .refl _, e2, h5⟩
theorem id_tup {tg : Expr} (h : PD X e ρ (.tuple xs) ρ') : ID X tg e ρ xs (fun _ => True) none ρ' := PI_imp (pi_tup h) fun σ H R ⟨C, F, se, q⟩ => by
  refine ⟨C, F, se, fun v F1 H1 x1 e1 r1 => ?_⟩
  cases r1 with
  | @tup a vs _ h1 h2 =>
    refine ⟨a, rfl, ⟨vs, SqT.of (e1.fr.ext _ _ h1)⟩, q _ F1 H1 x1 e1 ⟨fun i C F2 H2 σ2 ρ2 x2 e2 ok2 hs hi => ?_, fun C F2 H2 σ2 ρ2 x2 e2 ok2 hs => ?_, fun i C F2 H2 σ2 ρ2 v H3 x2 e2 ok2 hs hi y => ?_⟩⟩
    · exact walk_tup.goes i H2 (by rw [h2.length]; exact hi) (SqT.of (e2.fr.ext _ _ (x2 _ _ h1)))
    · rw [← h2.length]; exact walk_tup.stops H2 (SqT.of (e2.fr.ext _ _ (x2 _ _ h1)))
    · obtain ⟨rfl, h3⟩ := walk_tup.yields i H2 v H3 (by rw [h2.length]; exact hi) (SqT.of (e2.fr.ext _ _ (x2 _ _ h1))) y
      obtain ⟨d, h4, h5⟩ := h2.getV h3
      exact ⟨d, F2, h4, .refl _, e2, h5.mono x2⟩
/-- the ints of a range -/
def rgD (lo : Int) (n : Nat) : List PyData := (List.range n).map fun i => .int (lo + (i : Nat))
theorem rgD_get {lo : Int} {n i : Nat} (h : i < n) : (rgD lo n)[i]? = some (.int (lo + (i : Nat))) := by
  unfold rgD; rw [List.getElem?_map, List.getElem?_range h]; rfl
theorem rgD_len {lo : Int} {n : Nat} : (rgD lo n).length = n := by unfold rgD; rw [List.length_map, List.length_range]
theorem wk_range {K : PySem.W.Frag} {F0 : Hp} {σ0 : L2.St} {lo : Int} {n : Nat} : Wk K F0 σ0 (Itr lo n) (rgD lo n) (fun _ => True) none :=
  ⟨fun i _ F H σ ρ _ _ _ _ hi => walk_range.goes i H (by rw [rgD_len] at hi; exact hi) trivial, fun _ F H σ ρ _ _ _ _ => by rw [rgD_len]; exact walk_range.stops H trivial, fun i _ F H σ ρ v H1 _ e _ _ hi y => by
    rw [rgD_len] at hi
    obtain ⟨rfl, rfl⟩ := walk_range.yields i H v H1 hi trivial y
    exact ⟨_, F, rgD_get hi, .refl _, e, .int _⟩⟩
theorem id_range1 {tg : Expr} {p : Pos} {n : Int} (hm : X.mg "range" = none) (h : PD X a ρ (.int n) ρ') (h1 : -(2 ^ 62) ≤ n) (h2 : n < 2 ^ 62) (hg : Gl X "range" := by rfl) (hs : starEach [a] X.env = [(false, eval a X.env)] := by rfl) : ID X tg (.Call (.Name "range" p) [a] [] pos) ρ (rgD 0 n.toNat) (fun _ => True) none ρ' :=
  PI_imp (pi_range1 hg hm (ad_cons h ad_nil hs) hs) fun σ H R ⟨C, F, se, q⟩ => ⟨C, F, se, fun vs F1 H1 x1 e1 r1 => by
    cases r1 with
    | cons a1 a2 =>
      cases a2
      rw [rp_int a1]
      exact ⟨n, rfl, h1, h2, q _ F1 H1 x1 e1 wk_range⟩⟩
theorem id_range2 {tg : Expr} {p : Pos} {m n : Int} (hm : X.mg "range" = none) (ha : PD X a ρ (.int m) ρ1) (hb : PD X b ρ1 (.int n) ρ') (h1 : -(2 ^ 62) ≤ m) (h2 : m < 2 ^ 62) (h3 : -(2 ^ 62) ≤ n) (h4 : n < 2 ^ 62) (hg : Gl X "range" := by rfl)
    (hs : starEach [a, b] X.env = [(false, eval a X.env), (false, eval b X.env)] := by rfl) (hs2 : starEach [b] X.env = [(false, eval b X.env)] := by rfl) : ID X tg (.Call (.Name "range" p) [a, b] [] pos) ρ (rgD m (n - m).toNat) (fun _ => True) none ρ' :=
  PI_imp (pi_range2 hg hm (ad_cons ha (ad_cons hb ad_nil hs2) (by rw [hs, hs2])) hs hs2) fun σ H R ⟨C, F, se, q⟩ => ⟨C, F, se, fun vs F1 H1 x1 e1 r1 => by
    cases r1 with
    | cons a1 a2 =>
      cases a2 with
      | cons a2 a3 =>
        cases a3
        rw [rp_int a1, rp_int a2]
        exact ⟨m, n, rfl, ⟨h1, h2, h3, h4⟩, q _ F1 H1 x1 e1 wk_range⟩⟩
/-- a text, sign by sign -/
def sgD (s : Str) : List PyData := s.cps.toList.map fun c => .str ⟨#[c]⟩
theorem id_str {tg : Expr} {s : Str} (h : PD X e ρ (.str s) ρ') : ID X tg e ρ (sgD s) (fun _ => True) none ρ' := PI_imp (pi_str h) fun σ H R ⟨C, F, se, q⟩ => ⟨C, F, se, fun v F1 H1 x1 e1 r1 => by
  have hl : (sgD s).length = s.cps.size := by unfold sgD; rw [List.length_map, Array.length_toList]
  refine ⟨s, rp_str r1, q _ F1 H1 x1 e1 ⟨fun i C F2 H2 σ2 ρ2 x2 e2 ok2 hs hi => ?_, fun C F2 H2 σ2 ρ2 x2 e2 ok2 hs => ?_, fun i C F2 H2 σ2 ρ2 v H3 x2 e2 ok2 hs hi y => ?_⟩⟩
  · exact walk_str.goes i H2 (by rw [hl] at hi; exact hi) trivial
  · rw [hl]; exact walk_str.stops H2 trivial
  · obtain ⟨rfl, c, h3, rfl⟩ := walk_str.yields i H2 v H3 (by rw [hl] at hi; exact hi) trivial y
    exact ⟨.str ⟨#[c]⟩, F2, by unfold sgD; rw [List.getElem?_map, Array.getElem?_toList, h3]; rfl, .refl _, e2, .str _⟩⟩
end
end G

/-! GLoop: loops and comprehensions in words of data. -/
namespace G
open PySem PySem.Spec PyProof.Rows L2

/-- P, of less -/
def Lee (P : En → Prop) (ρ : En) : Prop := ∃ ρ', Le ρ' ρ ∧ P ρ'
theorem Lee.of {P : En → Prop} {ρ : En} (h : P ρ) : Lee P ρ := ⟨ρ, Le.refl ρ, h⟩
section
variable {X : Cx} {W : WX} {e a b c tg iter elt : Expr} {es : List Expr} {pos pos' : Pos} {ρ ρ' ρ1 ρ2 ρ3 : En} {x y z : PyData} {xs ys its : List PyData} {st : Stmt} {rest A B body : List Stmt} {D : DE} {k : Bool} {i j : Nat} {w : Str} {ok : En → Prop}

theorem sd_for (I : Nat → En → Prop) (hp : PassesOwn (model X.prog X.w) X.A X.env X.xe) (hc : X.calm = true) (hi : ID X tg iter ρ its ok none ρ1) (h0 : Lee (I 0) ρ1) (hok : ∀ i ρ', I i ρ' → ok ρ')
    (hs : ∀ i d ρ', its[i]? = some d → I i ρ' → ∃ ρ2, GD X tg d ρ' ρ2 ∧ BD X W body ρ2 { D with nx := Lee (I (i + 1)), ct := Lee (I (i + 1)), bk := D.nx }) (hd : ∀ ρ', I its.length ρ' → D.nx ρ')
    (hf : ∀ x, foldedSetIterable iter X.env x = pure x := by intro _; rfl) : SD X W (.For tg iter body [] pos) ρ D := by
  have cho : ∀ p : { p : Nat × PyData × En // its[p.1]? = some p.2.1 ∧ I p.1 p.2.2 }, ∃ ρ2, GD X tg p.1.2.1 p.1.2.2 ρ2 ∧ BD X W body ρ2 { D with nx := Lee (I (p.1.1 + 1)), ct := Lee (I (p.1.1 + 1)), bk := D.nx } := fun p => hs _ _ _ p.2.1 p.2.2
  have hg := PG_ex fun p => (Classical.choose_spec (cho p)).1
  have hb := PSs_ex fun p => (Classical.choose_spec (cho p)).2
  refine PS_imp (ps_for hp hc hi hg hb hf) fun E σ H ⟨C, F, se, cv⟩ => ?_
  refine ⟨C, F, se, fun J F1 H1 x1 e1 wk => ?_⟩
  refine ⟨fun i m σ H => m = its.length - i ∧ i ≤ its.length ∧ ∃ ρ' F2, Ex F1 F2 ∧ SE X.K C F2 H σ ρ' ∧ I i ρ', ⟨its.length, by simp, Nat.zero_le _, ?_⟩, ?_⟩
  · obtain ⟨ρ', l, i0⟩ := h0
    exact ⟨ρ', F1, .refl _, e1.le l, i0⟩
  rintro i m σ2 H2 ⟨rfl, hle, ρ', F2, x2, e2, i2⟩
  by_cases hlt : i < its.length
  · refine .inr ⟨wk.go i _ F2 H2 σ2 ρ' x2 e2 (hok i ρ' i2) (fun j z => nomatch z) hlt, fun σ' H' => ∃ ρ' F2, Ex F1 F2 ∧ SE X.K C F2 H' σ' ρ' ∧ I (i + 1) ρ', fun σ' H' q => ⟨its.length - (i + 1), by omega, rfl, hlt, q⟩, fun v H3 y => ?_⟩
    obtain ⟨d, F3, hd3, x3, e3, r3⟩ := wk.yld i _ F2 H2 σ2 ρ' v H3 x2 e2 (hok i ρ' i2) (fun j z => nomatch z) hlt y
    refine ⟨⟨(i, d, ρ'), hd3, i2⟩, ⟨F1, C.H0, C.M⟩, F3, ⟨⟨e3.fr.ext, x2.trans x3, e3.fr.h0, e3.fr.there, ?_, e3.fr.mM⟩, e3.len, e3.ok, e3.sep, e3.own, e3.fresh⟩, r3, fun σ4 F4 H4 x4 e4 => ?_⟩
    · intro a ha z
      refine e3.fr.new a ha ?_
      cases q : C.F0 a with
      | none => rfl
      | some o =>
        have z' : F1 a = none := z
        rw [show F1 a = some o from e1.fr.f0 a o q] at z'; cases z'
    · refine ⟨⟨(i, d, ρ'), hd3, i2⟩, ⟨F1, C.H0, C.M⟩, F4, e4, ?_⟩
      have again : ∀ ρ5 F5 H5 σ5, Lee (I (i + 1)) ρ5 → SE X.K ⟨F1, C.H0, C.M⟩ F5 H5 σ5 ρ5 → ∃ ρ' F2, Ex F1 F2 ∧ SE X.K C F2 H5 σ5 ρ' ∧ I (i + 1) ρ' := fun ρ5 F5 H5 σ5 ⟨ρ6, l, i6⟩ e5 => ⟨ρ6, F5, e5.fr.f0, (e5.unbase e1.fr).le l, i6⟩
      exact ⟨fun r F5 H5 σ5 q e5 => again r F5 H5 σ5 q e5, fun x r v F5 H5 σ5 q e5 r5 => cv.rt x r v F5 H5 σ5 q (e5.unbase e1.fr) r5, fun c f r d F5 H5 σ5 q e5 r5 => cv.ex c f r d F5 H5 σ5 q (e5.unbase e1.fr) r5,
        fun r F5 H5 σ5 q e5 => cv.nx r F5 H5 σ5 q (e5.unbase e1.fr), fun r F5 H5 σ5 q e5 => again r F5 H5 σ5 q e5, fun c r p F5 H5 σ5 q e5 f5 h5 o5 => cv.rn c r p F5 H5 σ5 q (e5.unbase e1.fr) f5 h5 o5, fun c c2 r t p q F5 H5 σ5 d e5 ht f5 f6 h5 h6 np o5 o6 => cv.rq c c2 r t p q F5 H5 σ5 d (e5.unbase e1.fr) ht f5 f6 h5 h6 np o5 o6, fun P r v F5 H5 σ5 q e5 h => cv.rz P r v F5 H5 σ5 q (e5.unbase e1.fr) h⟩
  · have q : i = its.length := by omega
    subst q
    exact .inl ⟨wk.stop _ F2 H2 σ2 ρ' x2 e2 (hok _ ρ' i2) (fun j z => nomatch z), cv.nx ρ' F2 H2 σ2 (hd ρ' i2) e2⟩

/-- while: I by the slots, a measure of the state it stands for -/
theorem sd_while {S : Type} (sh : S → En) (P : S → Prop) (μ : S → Nat) (cnd : S → Bool) (hp : PassesOwn (model X.prog X.w) X.A X.env X.xe) (h0 : ∃ s, Le (sh s) ρ ∧ P s)
    (hc : ∀ s, P s → TD X c (sh s) (cnd s) (sh s)) (hb : ∀ s, P s → cnd s = true → BD X W body (sh s) { D with nx := Lee (fun r => ∃ s', r = sh s' ∧ P s' ∧ μ s' < μ s), ct := Lee (fun r => ∃ s', r = sh s' ∧ P s' ∧ μ s' < μ s), bk := D.nx })
    (hd : ∀ s, P s → cnd s = false → D.nx (sh s)) : SD X W (.While c body [] pos) ρ D := by
  have hc' := PT_ex fun p : { s // P s } => hc p.1 p.2
  have hb' := PSs_ex fun p : { s // P s ∧ cnd s = true } => hb p.1 p.2.1 p.2.2
  refine PS_imp (ps_while hp hc' hb') fun E σ H ⟨C, F, se, cv⟩ => ?_
  obtain ⟨s0, l0, p0⟩ := h0
  refine ⟨fun m σ H => ∃ s F, P s ∧ m = μ s ∧ SE X.K C F H σ (sh s), ⟨μ s0, s0, F, p0, rfl, se.le l0⟩, ?_⟩
  rintro m σ1 H1 ⟨s, F1, p, rfl, e1⟩
  refine ⟨⟨s, p⟩, C, F1, e1, fun F2 H2 x2 e2 => ?_⟩
  cases q : cnd s with
  | true =>
    refine iteT ⟨fun σ' H' => ∃ s' F', P s' ∧ μ s' < μ s ∧ SE X.K C F' H' σ' (sh s'), fun σ' H' ⟨s', F', a, b, d⟩ => ⟨μ s', b, s', F', a, rfl, d⟩, ⟨s, p, q⟩, C, F2, e2, ?_⟩
    have again : ∀ ρ5 F5 H5 σ5, Lee (fun r => ∃ s', r = sh s' ∧ P s' ∧ μ s' < μ s) ρ5 → SE X.K C F5 H5 σ5 ρ5 → ∃ s' F', P s' ∧ μ s' < μ s ∧ SE X.K C F' H5 σ5 (sh s') := fun ρ5 F5 H5 σ5 ⟨ρ6, l, s', h1, h2, h3⟩ e5 => ⟨s', F5, h2, h3, by rw [← h1]; exact e5.le l⟩
    exact ⟨again, cv.rt, cv.ex, cv.nx, again, cv.rn, cv.rq, cv.rz⟩
  | false => exact iteF (cv.nx _ F2 H2 σ1 (hd s p q) e2)

/-! ### comprehensions -/
def wipeE (ρ : En) : List Nat → En
  | [] => ρ
  | v :: vs => (wipeE ρ vs).set v .un
theorem wipeE_len (ρ : En) : ∀ vs, (wipeE ρ vs).length = ρ.length
  | [] => rfl
  | v :: vs => by unfold wipeE; rw [List.length_set, wipeE_len ρ vs]
theorem wipe_out {σ : L2.St} {i : Nat} : ∀ {vs : List Nat}, i ∉ vs → (wipe σ vs)[i]? = σ[i]?
  | [], _ => rfl
  | v :: vs, h => by
    unfold wipe
    rw [List.getElem?_set_ne (fun q => h (by rw [q]; exact List.mem_cons_self)), wipe_out (fun q => h (List.mem_cons_of_mem _ q))]
theorem wipeE_out {ρ : En} {i : Nat} : ∀ {vs : List Nat}, i ∉ vs → (wipeE ρ vs)[i]? = ρ[i]?
  | [], _ => rfl
  | v :: vs, h => by
    unfold wipeE
    rw [List.getElem?_set_ne (fun q => h (by rw [q]; exact List.mem_cons_self)), wipeE_out (fun q => h (List.mem_cons_of_mem _ q))]
theorem wipeE_in {ρ : En} {i : Nat} {s : Sl} : ∀ {vs : List Nat}, i ∈ vs → (wipeE ρ vs)[i]? = some s → s = .un
  | v :: vs, h, q => by
    unfold wipeE at q
    by_cases hv : v = i
    · subst hv; exact (set_at q).1.symm
    · rw [List.getElem?_set_ne hv] at q
      rcases List.mem_cons.mp h with z | z
      · exact absurd z.symm hv
      · exact wipeE_in z q
theorem wipeE_le (ρ : En) : ∀ vs, Le (wipeE ρ vs) ρ
  | [] => Le.refl ρ
  | v :: vs => by
    have ih := wipeE_le ρ vs
    unfold wipeE
    have key : ∀ {r r' : En} (v : Nat), Le r r' → Le (r.set v .un) r' := fun {r r'} v h => by
      induction h generalizing v with
      | nil => exact .nil
      | un _ ih => cases v with
        | zero => rename_i h'; exact .un h'
        | succ v => exact .un (ih v)
      | eq _ ih => cases v with
        | zero => rename_i h'; exact .un h'
        | succ v => exact .eq (ih v)
    exact key v ih
theorem SE.wipe {K : PySem.W.Frag} {C : Cn} {F H : Hp} {σ : L2.St} (e : SE K C F H σ ρ) (vs : List Nat) : SE K C F H (L2.wipe σ vs) (wipeE ρ vs) :=
  (e.le (wipeE_le ρ vs)).sub (wipe_length σ vs) fun i s hs hn => by
    by_cases q : i ∈ vs
    · exact absurd (wipeE_in q hs) hn
    · exact wipe_out q
/-- the slots at vs as they were -/
def restE (ρ1 ρ' : En) : List Nat → En
  | [] => ρ'
  | v :: vs => (restE ρ1 ρ' vs).set v (match ρ1[v]? with | some (.d x) => .d x | _ => .un)
/-- back from a block -/
theorem SE.back {K : PySem.W.Frag} {C : Cn} {F1 H1 F H : Hp} {σ : L2.St} {vs : List Nat} (e1 : SE K C F1 H1 σ ρ1) (x : Ex F1 F) (e : SE K C F H (L2.wipe σ vs) (wipeE ρ' vs)) : SE K C F H σ (restE ρ1 ρ' vs) ∧ ∀ j a, Owns σ (restE ρ1 ρ' vs) j a → Owns (L2.wipe σ vs) (wipeE ρ' vs) j a := by
  have key : ∀ (ws : List Nat), (∀ v ∈ ws, v ∈ vs) → ∀ (i : Nat) (s : Sl), (restE ρ1 (wipeE ρ' vs) ws)[i]? = some s → (i ∈ ws ∧ ((∃ y, s = .d y ∧ ρ1[i]? = some (.d y)) ∨ s = .un)) ∨ (wipeE ρ' vs)[i]? = some s := by
    intro ws
    induction ws with
    | nil => intro _ i s h; exact .inr h
    | cons v ws ih =>
      intro hv i s h
      unfold restE at h
      by_cases q : v = i
      · subst q
        refine .inl ⟨List.mem_cons_self, ?_⟩
        have z := (set_at h).1
        cases r : ρ1[v]? with
        | none => rw [r] at z; exact .inr z.symm
        | some t =>
          cases t with
          | un => rw [r] at z; exact .inr z.symm
          | d y => rw [r] at z; exact .inl ⟨y, z.symm, rfl⟩
          | v y => rw [r] at z; exact .inr z.symm
          | o p c => rw [r] at z; exact .inr z.symm
      · rw [List.getElem?_set_ne q] at h
        rcases ih (fun u hu => hv u (List.mem_cons_of_mem _ hu)) i s h with ⟨a, b⟩ | a
        · exact .inl ⟨List.mem_cons_of_mem _ a, b⟩
        · exact .inr a
  have lenR : ∀ (ρ'' : En) (ws : List Nat), (restE ρ1 ρ'' ws).length = ρ''.length := fun ρ'' ws => by
    induction ws with
    | nil => rfl
    | cons v ws ih => unfold restE; rw [List.length_set, ih]
  have conv : ∀ j a, Owns σ (restE ρ1 (wipeE ρ' vs) vs) j a → Owns (L2.wipe σ vs) (wipeE ρ' vs) j a := fun j a ⟨h1, t, h2, h3⟩ => by
    rcases key vs (fun _ h => h) j t h2 with ⟨_, ⟨y, rfl, _⟩ | rfl⟩ | z
    · cases h3
    · cases h3
    · refine ⟨?_, t, z, h3⟩
      rw [wipe_out (fun q => by rw [wipeE_in q z] at h3; cases h3)]
      exact h1
  have main : SE K C F H σ (restE ρ1 (wipeE ρ' vs) vs) := by
    refine ⟨e.fr, ?_, fun i s hs => ?_, fun j k a hj hk => e.sep j k a (conv j a hj) (conv k a hk), fun j a hj => e.own j a (conv j a hj), fun j a c h1 h2 => ?_⟩
    · rw [lenR, ← e.len, wipe_length]
    · rcases key vs (fun _ h => h) i s hs with ⟨_, ⟨y, rfl, h1⟩ | rfl⟩ | z
      · obtain ⟨v, a, b⟩ := e1.get h1
        exact ⟨v, by rw [a]; rfl, b.mono x⟩
      · trivial
      · by_cases q : i ∈ vs
        · rw [wipeE_in q z]; trivial
        · have := e.ok i s z
          rw [wipe_out q] at this
          exact this
    · have ow := conv j a ⟨h2, _, h1, rfl⟩
      rcases key vs (fun _ h => h) j _ h1 with ⟨_, ⟨y, q, _⟩ | q⟩ | z
      · cases q
      · cases q
      · exact e.fresh j a c z ow.1
  -- restE over the wiped slots is restE over the slots
  have same : ∀ (ws : List Nat) (v : Nat), v ∈ ws → ∀ ρ'' : En, restE ρ1 (ρ''.set v .un) ws = restE ρ1 ρ'' ws := by
    intro ws
    induction ws with
    | nil => intro v hv; cases hv
    | cons u ws ih =>
      intro v hv ρ''
      unfold restE
      by_cases q : v ∈ ws
      · rw [ih v q]
      · have hvu : v = u := by
          rcases List.mem_cons.mp hv with z | z
          · exact z
          · exact absurd z q
        subst hvu
        have comm : ∀ (zs : List Nat), v ∉ zs → restE ρ1 (ρ''.set v .un) zs = (restE ρ1 ρ'' zs).set v .un := by
          intro zs
          induction zs with
          | nil => intro _; rfl
          | cons t zs ih2 =>
            intro ht
            unfold restE
            rw [ih2 (fun z => ht (List.mem_cons_of_mem _ z)), List.set_comm _ _ (fun z => ht (by rw [z]; exact List.mem_cons_self))]
        rw [comm ws q, List.set_set]
  have all : ∀ ws, (∀ v ∈ ws, v ∈ vs) → restE ρ1 (wipeE ρ' ws) vs = restE ρ1 ρ' vs := by
    intro ws
    induction ws with
    | nil => intro _; rfl
    | cons v ws ih =>
      intro h
      unfold wipeE
      rw [same vs v (h v List.mem_cons_self), ih (fun u hu => h u (List.mem_cons_of_mem _ hu))]
  rw [all vs (fun _ h => h)] at main conv
  exact ⟨main, conv⟩

/-- a target within a block: only the slots at vs are set -/
def tGv (K : PySem.W.Frag) (vs : List Nat) (d : PyData) (ρ ρ' : En) : TG := fun v σ H Q => ∃ C F, SE K C F H σ ρ ∧ Rp K F v d ∧ ∀ σ' F' H', L2.wipe σ' vs = L2.wipe σ vs → Ex F F' → SE K C F' H' σ' ρ' → Q σ' H'
abbrev GV (X : Cx) (vs : List Nat) (tg : Expr) (d : PyData) (ρ ρ' : En) : Prop := PG X tg (tGv X.K vs d ρ ρ')
def tGsv (K : PySem.W.Frag) (vs : List Nat) (ds : List PyData) (ρ ρ' : En) : TGs := fun us σ H Q => ∃ C F, SE K C F H σ ρ ∧ RpA K F us ds ∧ ∀ σ' F' H', L2.wipe σ' vs = L2.wipe σ vs → Ex F F' → SE K C F' H' σ' ρ' → Q σ' H'
abbrev GsV (X : Cx) (vs : List Nat) (tg : List Expr) (d : List PyData) (ρ ρ' : En) : Prop := PGs X tg (tGsv X.K vs d ρ ρ')
theorem wipe_set {σ : L2.St} {v : Nat} {o : Option V} : ∀ {vs : List Nat}, v ∈ vs → L2.wipe (σ.set v o) vs = L2.wipe σ vs
  | u :: vs, h => by
    unfold L2.wipe
    by_cases q : v ∈ vs
    · rw [wipe_set q]
    · have e : v = u := by
        rcases List.mem_cons.mp h with z | z
        · exact z
        · exact absurd z q
      subst e
      have comm : ∀ zs : List Nat, v ∉ zs → L2.wipe (σ.set v o) zs = (L2.wipe σ zs).set v o := by
        intro zs
        induction zs with
        | nil => intro _; rfl
        | cons t zs ih =>
          intro ht
          unfold L2.wipe
          rw [ih (fun z => ht (List.mem_cons_of_mem _ z)), List.set_comm _ _ (fun z => ht (by rw [z]; exact List.mem_cons_self))]
      rw [comm vs q, List.set_set]
theorem wipe_wipe {σ : L2.St} {vs : List Nat} : L2.wipe (L2.wipe σ vs) vs = L2.wipe σ vs := by
  have key : ∀ ws : List Nat, (∀ v ∈ ws, v ∈ vs) → L2.wipe (L2.wipe σ ws) vs = L2.wipe σ vs := by
    intro ws
    induction ws with
    | nil => intro _; rfl
    | cons v ws ih =>
      intro h
      show L2.wipe ((L2.wipe σ ws).set v none) vs = _
      rw [wipe_set (h v List.mem_cons_self), ih fun u hu => h u (List.mem_cons_of_mem _ hu)]
  exact key vs fun _ h => h
theorem gv_name {vs : List Nat} (i : Nat) (hv : i ∈ vs) (hN : X.N.Nodup) (hi : X.N[i]? = some w := by rfl) (hx : Loc X.env.scope w := by first | exact Or.inl rfl | exact Or.inr rfl)
    (hf : X.fn w = true ∨ X.env.scope.names.lookup w = some .local := by first | exact .inl rfl | exact .inr rfl) : GV X vs (.Name w pos) x ρ (ρ.set i (.d x)) := PG_imp (pg_name hN hi hx hf) fun v σ H Q ⟨C, F, se, r, q⟩ => q _ F H (wipe_set hv) (.refl _) (se.setD r)
theorem gsv_nil {vs : List Nat} : GsV X vs [] [] ρ ρ := PGs_imp pgs_nil fun v σ H Q ⟨C, F, se, r, q⟩ => ⟨by cases r; rfl, q _ F H rfl (.refl _) se⟩
theorem gsv_cons {vs : List Nat} (h : GV X vs e x ρ ρ1) (hr : GsV X vs es xs ρ1 ρ2) (hs : (assignEach (e :: es) X.env).map (·.2) = assign e X.env :: (assignEach es X.env).map (·.2) := by rfl) : GsV X vs (e :: es) (x :: xs) ρ ρ2 := PGs_imp (pgs_cons h hr hs) fun v σ H Q ⟨C, F, se, r, q⟩ => by
  cases r with
  | cons r1 r2 => exact ⟨_, _, rfl, C, F, se, r1, fun σ1 F1 H1 w1 x1 e1 => ⟨C, F1, e1, r2.mono x1, fun σ2 F2 H2 w2 x2 e2 => q σ2 F2 H2 (w2.trans w1) (x1.trans x2) e2⟩⟩
theorem gv_tup {vs : List Nat} {kk : Nat} (hc : X.calm = true) (h : GsV X vs es xs ρ ρ') (hn : (assignEach es X.env).length = xs.length := by rfl) (hst : (assignEach es X.env).findIdx? (·.1) = none := by rfl) : GV X vs (.Tuple es kk pos) (.tuple xs) ρ ρ' := PG_imp (pg_tup hc h hn hst) fun v σ H Q ⟨C, F, se, r, q⟩ => by
  cases r with
  | tup h1 h2 => exact ⟨_, _, rfl, SqT.of (se.fr.ext _ _ h1), h2.length, C, F, se, h2, q⟩


/-! ### the list that is being built: an object that no slot names -/
def Cn.pin (C : Cn) (F : Hp) (p : Addr) (o : HO) : Cn := ⟨F, upd C.H0 p o, C.M⟩
theorem SE.pin {K : PySem.W.Frag} {C : Cn} {F H : Hp} {σ : L2.St} {p : Addr} {o : HO} (e : SE K C F H σ ρ) (h0 : C.H0 p = none) (hp : H p = some o) (no : ∀ j, ¬ Owns σ ρ j p) : SE K (C.pin F p o) F H σ ρ := by
  refine ⟨⟨e.fr.ext, .refl _, fun a u hu m => ?_, fun a ha => ?_, fun _ _ z => .inl z, fun a ha => ?_⟩, e.len, e.ok, e.sep, fun j a hj => ?_, fun j a c h1 h2 => ?_⟩
  · have hu' : upd C.H0 p o a = some u := hu
    by_cases q : a = p
    · rw [q, upd_same] at hu'; rw [q, hp]; exact hu'
    · rw [upd_ne q] at hu'; exact e.fr.h0 a u hu' m
  · show upd C.H0 p o a = none
    rw [upd_ne (fun q => by rw [q, hp] at ha; cases ha)]; exact e.fr.there a ha
  · show upd C.H0 p o a ≠ none
    by_cases q : a = p
    · rw [q, upd_same]; exact fun z => nomatch z
    · rw [upd_ne q]; exact e.fr.mM a ha
  · obtain ⟨x, y, z⟩ := e.own j a hj
    refine ⟨x, y, ?_⟩
    show upd C.H0 p o a = none ∨ a ∈ C.M
    rw [upd_ne (fun q => no j (by rw [← q]; exact hj))]; exact z
  · show upd C.H0 p o a = none
    rw [upd_ne (fun q => no j (by rw [← q]; exact ⟨h2, _, h1, rfl⟩))]; exact e.fresh j a c h1 h2
theorem SE.unpin {K : PySem.W.Frag} {C : Cn} {F1 H1 F H : Hp} {σ : L2.St} {p : Addr} {o : HO} (f : Fr C F1 H1) (h0 : C.H0 p = none) (f1 : F1 p = none) (e : SE K (C.pin F1 p o) F H σ ρ) (nt : ∀ xs, o ≠ .tup xs := by intro _ h; cases h) : SE K C F H σ ρ ∧ F p = none ∧ H p = some o ∧ (∀ j, ¬ Owns σ ρ j p) := by
  have here : (C.pin F1 p o).H0 p = some o := upd_same
  have nm : p ∉ C.M := fun m => f.mM p m h0
  have nes : ∀ a, upd C.H0 p o a = none → a ≠ p ∧ C.H0 a = none := fun a ha => by
    by_cases q : a = p
    · rw [q, upd_same] at ha; cases ha
    · rw [upd_ne q] at ha; exact ⟨q, ha⟩
  refine ⟨⟨⟨e.fr.ext, f.f0.trans e.fr.f0, fun a u hu m => ?_, fun a ha => (nes a (e.fr.there a ha)).2, fun a ha z => ?_, f.mM⟩, e.len, e.ok, e.sep, fun j a hj => ?_, fun j a c h1 h2 => (nes a (e.fresh j a c h1 h2)).2⟩, ?_, ?_, ?_⟩
  · refine e.fr.h0 a u ?_ m
    show upd C.H0 p o a = some u
    rw [upd_ne (fun q => by rw [q, h0] at hu; cases hu)]; exact hu
  · refine (f.new a ha z).mono e.fr.f0 (e.fr.new a ?_)
    show upd C.H0 p o a ≠ none
    rw [upd_ne (fun q => ha (by rw [q]; exact h0))]; exact ha
  · obtain ⟨x, y, z⟩ := e.own j a hj
    refine ⟨x, y, ?_⟩
    rcases z with z | z
    · exact .inl (nes a z).2
    · exact .inr z
  · exact (e.fr.new p (ne_none here) f1).none e.fr.ext (fun xs q => nt xs (by rw [e.fr.h0 p o here nm] at q; cases q; rfl))
  · exact e.fr.h0 p o here nm
  · intro j hj
    rcases (e.own j p hj).2.2 with z | z
    · rw [here] at z; cases z
    · exact nm z
/-- it is changed -/
theorem SE.wrx {K : PySem.W.Frag} {C : Cn} {F H : Hp} {σ : L2.St} {p : Addr} {o o' : HO} (e : SE K C F H σ ρ) (h0 : C.H0 p = none) (fp : F p = none) (hp : H p = some o') (no : ∀ j, ¬ Owns σ ρ j p) : SE K C F (upd H p o) σ ρ := by
  refine ⟨⟨fun a u h => ?_, e.fr.f0, fun a u hu m => ?_, fun a ha => ?_, e.fr.new, e.fr.mM⟩, e.len, fun i s hs => ?_, e.sep, fun j a hj => ?_, e.fresh⟩
  · rw [upd_ne (fun q => by rw [q, fp] at h; cases h)]; exact e.fr.ext a u h
  · rw [upd_ne (fun q => by rw [q, h0] at hu; cases hu)]; exact e.fr.h0 a u hu m
  · by_cases q : a = p
    · rw [q, upd_same] at ha; cases ha
    · rw [upd_ne q] at ha; exact e.fr.there a ha
  · refine (e.ok i s hs).grow (.refl _) fun l u hl ho hu => ?_
    rw [upd_ne (fun q => no i (by rw [← q]; exact ⟨join_some hl, s, hs, ho⟩))]; exact hu
  · obtain ⟨x, y, z⟩ := e.own j a hj
    refine ⟨x, ?_, z⟩
    rw [upd_ne (fun q => no j (by rw [← q]; exact hj))]; exact y

/-! ### comprehensions, turn by turn -/
/-- X, in the block of a comprehension -/
def IsBlk (X : Cx) (scope : Scope) (Y : Cx) : Prop := ∃ (s : Shared) (H : Hp) (C : Addr) (cl : List (Str × Addr)) (fp : List Addr), Y = X.blk s H scope (compEnvC scope cl C X.env) fp
abbrev TsD (X : Cx) (es : List Expr) (ρ : En) (k : Bool) (ρ' : En) : Prop := PTs X es (tT X.K ρ k ρ')
theorem tsd_nil : TsD X [] ρ true ρ := ⟨fun pins s σ H Q I ⟨C, F, se, q⟩ => (pts_nil (X := X)).run pins s σ H Q I (q F H (.refl _) se)⟩
theorem tsd_one (h : TD X c ρ k ρ') : TsD X [c] ρ k ρ' := pts_one h
structure Turn where
  ρt : En
  ρm : En
  k : Bool
  y : PyData
  ρe : En
structure TurnOk (X : Cx) (scope : Scope) (vs : List Nat) (tg elt : Expr) (ifs : List Expr) (d : PyData) (ρ ρ' : En) (T : Turn) : Prop where
  tg : ∀ Y, IsBlk X scope Y → GV Y vs tg d (wipeE ρ vs) T.ρt
  ts : ∀ Y, IsBlk X scope Y → PTs Y ifs (tT X.K T.ρt T.k T.ρm)
  el : ∀ Y, IsBlk X scope Y → T.k = true → PE Y elt (tP X.K T.ρm T.y T.ρe)
  nx : Le (wipeE ρ' vs) (if T.k = true then T.ρe else T.ρm)
/-- what the turns leave -/
def outs (T : Nat → Turn) : Nat → List PyData
  | 0 => []
  | n + 1 => if (T n).k = true then outs T n ++ [(T n).y] else outs T n
theorem outs_len (T : Nat → Turn) : ∀ n, (outs T n).length ≤ n
  | 0 => Nat.le_refl _
  | n + 1 => by
    unfold outs
    have := outs_len T n
    split
    · rw [List.length_append, List.length_singleton]; omega
    · omega
theorem SE.wiped {K : PySem.W.Frag} {C : Cn} {F H : Hp} {σ : L2.St} {vs : List Nat} (e : SE K C F H σ (wipeE ρ vs)) : SE K C F H (L2.wipe σ vs) (wipeE ρ vs) :=
  e.sub (wipe_length σ vs) fun i s hs hn => by
    by_cases q : i ∈ vs
    · exact absurd (wipeE_in q hs) hn
    · exact wipe_out q
section
variable {scope : Scope} {own : List (Str × Nat)} {ifs : List Expr} {src : Option Nat} {T : Nat → Turn} {I : Nat → En}
/-- what is read of a list comprehension: any reader of targets, tests and elements that the turns give -/
theorem lc_read {Q : VK} {σ : L2.St} {H : Hp} {Kk : PySem.W.Frag} {C : Cn} {F : Hp} {J : It} {vs : List Nat} {g : TG} {tt : TT} {te : TE} (se : SE Kk C F H σ ρ1) (wk : Wk Kk F σ J its ok src) (h0 : Le (wipeE (I 0) vs) ρ1) (hsrc : ∀ j, src = some j → j ∉ vs) (hok : ∀ i, i ≤ its.length → ok (wipeE (I i) vs)) (hlen : its.length < 100000)
    (hg : ∀ i d, its[i]? = some d → ∀ v σ H Q, tGv Kk vs d (wipeE (I i) vs) (T i).ρt v σ H Q → g v σ H Q) (ht : ∀ i d, its[i]? = some d → ∀ σ H Q, tT Kk (T i).ρt (T i).k (T i).ρm σ H Q → tt σ H Q) (he : ∀ i d, its[i]? = some d → (T i).k = true → ∀ σ H Q, tP Kk (T i).ρm (T i).y (T i).ρe σ H Q → te σ H Q)
    (hnx : ∀ (i : Nat) (d : PyData), its[i]? = some d → Le (wipeE (I (i + 1)) vs) (if (T i).k = true then (T i).ρe else (T i).ρm))
    (hq : ∀ p F' H', Ex F F' → SE Kk C F' H' σ (restE ρ1 (I its.length) vs) → F' p = none → C.H0 p = none → (∀ j, ¬ Owns σ (restE ρ1 (I its.length) vs) j p) → Own1 Kk F' H' p (.l (outs T its.length)) → Q (.ref p) H') :
    ∀ Dl, H Dl = none → ∃ W : Nat → Nat → Hp → Prop, (∃ m, W 0 m (upd H Dl (.lst []))) ∧ ∀ i m H, W i m H →
      (J.stop i H ∧ Q (.ref Dl) H) ∨ (J.go i H ∧ ∃ Nx : Hp → Prop, (∀ H', Nx H' → ∃ m', m' < m ∧ W (i + 1) m' H') ∧ ∀ v H', J.yld i H v H' →
        g v (L2.wipe σ vs) H' fun σ2 H2 => L2.wipe σ2 vs = L2.wipe σ vs ∧ tt σ2 H2 fun b H3 =>
            if b = true then te σ2 H3 fun y H4 => ∃ acc, H4 Dl = some (.lst acc) ∧ acc.length < sizeLine ∧ Nx (upd H4 Dl (.lst (acc ++ [y]))) else Nx H3) := by
  intro Dl hD
  have w0 := (se.le h0).wiped
  let St (i : Nat) (H' : Hp) : Prop := ∃ F' acc, Ex F F' ∧ SE Kk C F' H' (L2.wipe σ vs) (wipeE (I i) vs) ∧ F' Dl = none ∧ H' Dl = some (.lst acc) ∧ (∀ j, ¬ Owns (L2.wipe σ vs) (wipeE (I i) vs) j Dl) ∧ RpA Kk F' acc (outs T i)
  have c0 : C.H0 Dl = none := se.fr.there Dl hD
  have fD : F Dl = none := se.fr.ext.none hD
  refine ⟨fun i m H => m = its.length - i ∧ i ≤ its.length ∧ St i H, ⟨its.length, by simp, Nat.zero_le _, F, [], .refl _, w0.grow (.side w0.fr.ext hD), fD, upd_same, not_owns_new w0 hD, .nil⟩, ?_⟩
  rintro i m H1 ⟨rfl, hle, F1, acc, x1, e1, f1, h1, n1, r1⟩
  have same : ∀ j, src = some j → (L2.wipe σ vs)[j]? = σ[j]? := fun j q => wipe_out (hsrc j q)
  by_cases hlt : i < its.length
  · refine .inr ⟨wk.go i _ F1 H1 _ _ x1 e1 (hok i hle) same hlt, St (i + 1), fun H' q => ⟨its.length - (i + 1), by omega, rfl, hlt, q⟩, fun v H2 y => ?_⟩
    have e1' := e1.pin c0 h1 n1
    obtain ⟨d, F2, hd, x2, e2, r2⟩ := wk.yld i _ F1 H1 _ _ v H2 x1 e1' (hok i hle) same hlt y
    refine hg i d hd _ _ _ _ ⟨_, F2, e2, r2, fun σ3 F3 H3 w3' x3 e3 => ?_⟩
    have w3 := w3'.trans wipe_wipe
    refine ⟨w3, ?_⟩
    refine ht i d hd _ _ _ ⟨_, F3, e3, fun F4 H4 x4 e4 => ?_⟩
    have nx := hnx i d hd
    have olen := outs_len T i
    cases k : (T i).k with
    | true =>
      rw [k, if_pos rfl] at nx
      refine iteT (he i d hd k _ _ _ ⟨_, F4, e4, fun y F5 H5 x5 e5 r5 => ?_⟩)
      obtain ⟨e6, f6, h6, n6⟩ := SE.unpin e1.fr c0 f1 (e5.le nx).wiped
      rw [w3] at e6 n6
      refine ⟨acc, h6, by rw [r1.length]; exact line_lt (by omega), F5, acc ++ [y], x1.trans (x2.trans (x3.trans (x4.trans x5))), e6.wrx c0 f6 h6 n6, f6, upd_same, n6, ?_⟩
      unfold outs
      rw [k, if_pos rfl]
      exact (r1.mono (x2.trans (x3.trans (x4.trans x5)))).append (.cons r5 .nil)
    | false =>
      rw [k, if_neg Bool.false_ne_true] at nx
      refine iteF ?_
      obtain ⟨e6, f6, h6, n6⟩ := SE.unpin e1.fr c0 f1 (e4.le nx).wiped
      rw [w3] at e6 n6
      refine ⟨F4, acc, x1.trans (x2.trans (x3.trans x4)), e6, f6, h6, n6, ?_⟩
      unfold outs
      rw [k, if_neg Bool.false_ne_true]
      exact r1.mono (x2.trans (x3.trans x4))
  · have q : i = its.length := by omega
    subst q
    obtain ⟨b1, b2⟩ := SE.back se x1 e1
    exact .inl ⟨wk.stop _ F1 H1 _ _ x1 e1 (hok _ hle) same, hq Dl F1 H1 x1 b1 f1 c0 (fun j hj => n1 j (b2 j Dl hj)) ⟨acc, h1, r1⟩⟩
/-- what a list comprehension needs, whatever is done with it -/
structure LcOk (X : Cx) (elt tg iter : Expr) (ifs : List Expr) (scope : Scope) (ρ : En) (ct : Ct) (ρ' : En) : Prop where
  ex : ∃ (own : List (Str × Nat)) (wi : TI) (g : TG) (tt : TT) (te : TE), PI X tg iter wi ∧ BlkOk X.N X.env.scope scope own ∧ (∀ (s : Shared) (H : Hp) (C : Addr) (cl : List (Str × Addr)) (fp : List Addr), PG (X.blk s H scope (compEnvC scope cl C X.env) fp) tg g) ∧
    (∀ (s : Shared) (H : Hp) (C : Addr) (cl : List (Str × Addr)) (fp : List Addr), PTs (X.blk s H scope (compEnvC scope cl C X.env) fp) ifs tt) ∧ (∀ (s : Shared) (H : Hp) (C : Addr) (cl : List (Str × Addr)) (fp : List Addr), PE (X.blk s H scope (compEnvC scope cl C X.env) fp) elt te) ∧
    ∀ σ H Q, tN X.K ρ ct ρ' σ H Q → tLc wi g tt te (own.map (·.2)) σ H Q
/-- a list comprehension -/
theorem lc_ok (I : Nat → En) (T : Nat → Turn) (hb : BlkOk X.N X.env.scope scope own) (hi : ID X tg iter ρ its ok src ρ1) (h0 : Le (wipeE (I 0) (own.map (·.2))) ρ1) (hsrc : ∀ j, src = some j → j ∉ own.map (·.2)) (hok : ∀ i, i ≤ its.length → ok (wipeE (I i) (own.map (·.2)))) (hlen : its.length < 100000)
    (hT : ∀ i d, its[i]? = some d → TurnOk X scope (own.map (·.2)) tg elt ifs d (I i) (I (i + 1)) (T i)) :
    LcOk X elt tg iter ifs scope ρ (.l (outs T its.length)) (restE ρ1 (I its.length) (own.map (·.2))) := by
  have hg := fun (s : Shared) (H : Hp) (C : Addr) (cl : List (Str × Addr)) (fp : List Addr) => PG_ex (t := fun (p : { p : Nat × PyData // its[p.1]? = some p.2 }) => tGv X.K (own.map (·.2)) p.1.2 (wipeE (I p.1.1) (own.map (·.2))) (T p.1.1).ρt) fun p => (hT p.1.1 p.1.2 p.2).tg _ ⟨s, H, C, cl, fp, rfl⟩
  have ht := fun (s : Shared) (H : Hp) (C : Addr) (cl : List (Str × Addr)) (fp : List Addr) => PTs_ex fun p : { p : Nat × PyData // its[p.1]? = some p.2 } => (hT p.1.1 p.1.2 p.2).ts _ ⟨s, H, C, cl, fp, rfl⟩
  have he := fun (s : Shared) (H : Hp) (C : Addr) (cl : List (Str × Addr)) (fp : List Addr) => PE_ex fun p : { p : Nat × PyData // its[p.1]? = some p.2 ∧ (T p.1).k = true } => (hT p.1.1 p.1.2 p.2.1).el _ ⟨s, H, C, cl, fp, rfl⟩ p.2.2
  refine ⟨own, _, _, _, _, hi, hb, hg, ht, he, fun σ H Q ⟨C, F, se, q⟩ => ⟨C, F, se, fun J F1 H1 x1 e1 wk => ?_⟩⟩
  exact lc_read (g := fun v σ H Q => ∃ p : { p : Nat × PyData // its[p.1]? = some p.2 }, tGv X.K (own.map (·.2)) p.1.2 (wipeE (I p.1.1) (own.map (·.2))) (T p.1.1).ρt v σ H Q)
    (tt := fun σ H Q => ∃ p : { p : Nat × PyData // its[p.1]? = some p.2 }, tT X.K (T p.1.1).ρt (T p.1.1).k (T p.1.1).ρm σ H Q)
    (te := fun σ H Q => ∃ p : { p : Nat × PyData // its[p.1]? = some p.2 ∧ (T p.1).k = true }, tP X.K (T p.1.1).ρm (T p.1.1).y (T p.1.1).ρe σ H Q) e1 wk h0 hsrc hok hlen (fun i d hd v σ H Q t => ⟨⟨(i, d), hd⟩, t⟩) (fun i d hd σ H Q t => ⟨⟨(i, d), hd⟩, t⟩) (fun i d hd k σ H Q t => ⟨⟨(i, d), hd, k⟩, t⟩) (fun i d hd => (hT i d hd).nx) fun p F2 H2 x2 e2 f2 c2 n2 o2 => q p F2 H2 (x1.trans x2) e2 f2 c2 n2 o2
theorem pn_lc {ct : Ct} (h : LcOk X elt tg iter ifs scope ρ ct ρ') (hN : X.N.Nodup) (hc : X.calm = true := by rfl) (hs : ∀ x, foldedSetIterable iter X.env x = pure x := by intro _; rfl) : PN X (.ListComp elt [⟨tg, iter, ifs, 0⟩] scope pos) ρ ct ρ' := by
  obtain ⟨own, wi, g, tt, te, hi, hb, hg, ht, he, q⟩ := h.ex
  exact PE_imp (pe_lc hc hN hi hb hg ht he hs) q
/-- name = [..] on one line, the name a local: it goes on as its own list -/
theorem sd_setLcN {ct : Ct} {spos : Pos} (i : Nat) (h : LcOk X elt tg iter ifs scope ρ ct ρ') (h2 : D.nx (ρ'.set i (.o none ct))) (hN : X.N.Nodup) (hc : X.calm = true := by rfl) (hy : X.N[i]? = some w := by rfl) (hyl : X.env.scope.names.lookup w = some .local := by rfl)
    (hsw : swapsWith (.ListComp elt [⟨tg, iter, ifs, 0⟩] scope pos) (some (.Name w pos')) spos.line X.env = pure true := by rfl) (hs : ∀ x, foldedSetIterable iter X.env x = pure x := by intro _; rfl) : SD X W (.Assign [.Name w pos'] (.ListComp elt [⟨tg, iter, ifs, 0⟩] scope pos) spos) ρ D := by
  obtain ⟨own, wi, g, tt, te, hi, hb, hg, ht, he, q⟩ := h.ex
  exact PS_imp (ps_setLc hc hN hy hyl hsw hi hb hg ht he hs) fun E σ H ⟨C, F, se, cv⟩ => q σ H _ ⟨C, F, se, fun p F1 H1 x1 e1 fp h0 no r1 => cv.nx _ F1 H1 _ h2 (e1.setOwn fp h0 no r1)⟩
/-- .. as data -/
theorem sd_setLcD {spos : Pos} (i : Nat) (h : LcOk X elt tg iter ifs scope ρ (.l xs) ρ') (h2 : D.nx (ρ'.set i (.d (.list xs)))) (hN : X.N.Nodup) (hc : X.calm = true := by rfl) (hy : X.N[i]? = some w := by rfl) (hyl : X.env.scope.names.lookup w = some .local := by rfl)
    (hsw : swapsWith (.ListComp elt [⟨tg, iter, ifs, 0⟩] scope pos) (some (.Name w pos')) spos.line X.env = pure true := by rfl) (hs : ∀ x, foldedSetIterable iter X.env x = pure x := by intro _; rfl) : SD X W (.Assign [.Name w pos'] (.ListComp elt [⟨tg, iter, ifs, 0⟩] scope pos) spos) ρ D := by
  obtain ⟨own, wi, g, tt, te, hi, hb, hg, ht, he, q⟩ := h.ex
  refine PS_imp (ps_setLc hc hN hy hyl hsw hi hb hg ht he hs) fun E σ H ⟨C, F, se, cv⟩ => q σ H _ ⟨C, F, se, fun p F1 H1 x1 e1 fp h0 no r1 => ?_⟩
  obtain ⟨vs, hp, r⟩ := r1
  exact cv.nx _ (upd F1 p (.lst vs)) H1 _ h2 ((e1.frz fp hp h0 no).setD (.lst (SqL.of upd_same) (r.mono (.new fp))))
end
end
end G

/-! GCall: what defs promise, in words of data; calls. -/
namespace G
open PySem PySem.Spec PyProof.Rows L2

/-- how a call ends: it gives data, a new object, or raises -/
inductive Res where
  | ret (y : PyData)
  | own (c : Ct)
  | own2 (c c2 : Ct)
  | exc (cls : Value) (fs : List (Str × PyData))
  | raw (P : Hp → Hp → Hp → V → Prop)
def RetD (K : PySem.W.Frag) (F H : Hp) (Q : VK) (E : XK) : Res → Prop
  | .ret y => ∀ v F' H', Gr F H F' H' → Rp K F' v y → Q v H'
  | .own c => ∀ p F' H', Gr F H F' H' → H p = none → F' p = none → Own1 K F' H' p c → Q (.ref p) H'
  | .own2 c c2 => ∀ t p q F' H', Gr F H F' H' → H' t = some (.tup [.ref p, .ref q]) → F' p = none → F' q = none → H p = none → H q = none → p ≠ q → Own1 K F' H' p c → Own1 K F' H' q c2 → Q (.ref t) H'
  | .exc cls fs => ∀ d F' H', Gr F H F' H' → ExRep K F' H' d fs → E cls d H'
  | .raw P => ∀ v F' H', Gr F H F' H' → P H F' H' v → Q v H'
/-- growth, but for the object at l -/
structure GrW (l : Addr) (F H F' H' : Hp) : Prop where
  f : Ex F F'
  h : ∀ a o, a ≠ l → H a = some o → H' a = some o
  fh : Ex F' H'
  new : ∀ a, H a ≠ none → F a = none → Nt F' a
theorem SE.wrg {K : PySem.W.Frag} {C : Cn} {F H F' H' : Hp} {σ : L2.St} {ρ : En} (e : SE K C F H σ ρ) {i : Nat} {l : Addr} {p : Option Addr} {c c' : Ct} (g : GrW l F H F' H') (hi : ρ[i]? = some (.o p c)) (hl : σ[i]? = some (some (.ref l))) (h : Own1 K F' H' l c') : SE K C F' H' σ (ρ.set i (.o p c')) := by
  have ow : Owns σ ρ i l := ⟨hl, _, hi, rfl⟩
  obtain ⟨w1, w2, w3⟩ := e.own i l ow
  have hp : p = none ∨ p = some l := by
    obtain ⟨l', a, b, _⟩ := e.getO hi
    rw [hl] at a
    cases a
    exact b
  have conv : ∀ j a, Owns σ (ρ.set i (.o p c')) j a → Owns σ ρ j a := fun j a hj => by
    obtain ⟨h1, t, h2, h3⟩ := hj
    by_cases q : j = i
    · subst q
      rw [hl] at h1
      cases h1
      exact ow
    · rw [List.getElem?_set_ne (Ne.symm q)] at h2
      exact ⟨h1, t, h2, h3⟩
  have back : ∀ a, H' a = none → H a = none := fun a ha => by
    by_cases q : a = l
    · subst q; exact absurd ha h.some
    · cases z : H a with
      | none => rfl
      | some o => rw [g.h a o q z] at ha; cases ha
  refine ⟨⟨g.fh, e.fr.f0.trans g.f, fun a u hu m => ?_, fun a ha => e.fr.there a (back a ha), fun a ha z => (e.fr.new a ha z).mono g.f (g.new a (fun q => ha (e.fr.there a q))), e.fr.mM⟩, by rw [List.length_set]; exact e.len, fun j t ht => ?_, fun j k a hj hk => e.sep j k a (conv j a hj) (conv k a hk), fun j a hj => ?_, fun j a d h1 h2 => ?_⟩
  · refine g.h a u (fun q => ?_) (e.fr.h0 a u hu m)
    subst q
    rcases w3 with z | z
    · rw [z] at hu; cases hu
    · exact m z
  · by_cases q : j = i
    · subst q
      obtain ⟨rfl, _⟩ := set_at ht
      rw [hl]
      exact ⟨l, rfl, hp, h⟩
    · rw [List.getElem?_set_ne (Ne.symm q)] at ht
      exact (e.ok j t ht).grow g.f fun b u hb ot hu => g.h b u (fun nb => q (by subst nb; exact e.sep j i b (slot_own ht ot (join_some hb)) ow)) hu
  · obtain ⟨x1, x2, x3⟩ := e.own j a (conv j a hj)
    refine ⟨(g.new a x2 x1).none g.fh (fun xs q => ?_), fun z => x2 (back a z), x3⟩
    by_cases qa : a = l
    · subst qa; exact h.nt xs q
    · obtain ⟨o, ho⟩ := some_of x2
      exact e.nt (conv j a hj) xs (by rw [g.h a o qa ho] at q; rw [ho, q])
  · by_cases q : j = i
    · subst q
      obtain ⟨q1, _⟩ := set_at h1
      cases q1
      exact e.fresh j a c hi h2
    · rw [List.getElem?_set_ne (Ne.symm q)] at h1
      exact e.fresh j a d h1 h2
/-- a promise over data -/
def spD (K : PySem.W.Frag) (S : List PyData → Res → Prop) : Sp := fun vs H Q E => ∃ F ds r, Ex F H ∧ RpA K F vs ds ∧ S ds r ∧ RetD K F H Q E r
/-- .. where the first argument is a list that is changed -/
def spO (K : PySem.W.Frag) (S : List PyData → List PyData → PyData → List PyData → Prop) : Sp := fun vs H Q E => ∃ F l vs' us xs ds y xs', vs = .ref l :: vs' ∧ Ex F H ∧ F l = none ∧ H l = some (.lst us) ∧ RpA K F us xs ∧ RpA K F vs' ds ∧ S xs ds y xs' ∧
  ∀ v F' H' us', GrW l F H F' H' → H' l = some (.lst us') → RpA K F' us' xs' → Rp K F' v y → Q v H'
/-- what a body has at its start -/
def pad (n : Nat) (l : En) : En := l ++ List.replicate (n - l.length) .un
def Dof : Res → DE
  | .ret y => { rt := fun x _ => x = y, nx := fun _ => y = .none }
  | .own c => { rn := fun c' _ => c' = c }
  | .own2 c c2 => { rq := fun c' c2' _ => c' = c ∧ c2' = c2 }
  | .exc cls fs => { ex := fun c' fs' _ => c' = cls ∧ fs' = fs }
  | .raw P => { rz := fun P' _ => P' = P }
section
variable {K : PySem.W.Frag} {F H : Hp}
theorem start_get {N : List Str} {vs : List V} {i : Nat} : (L2.start N vs)[i]?.join = vs[i]? := by
  unfold L2.start
  by_cases h : i < vs.length
  · rw [List.getElem?_append_left (by rw [List.length_map]; exact h), List.getElem?_map, List.getElem?_eq_getElem h]; rfl
  · rw [List.getElem?_append_right (by rw [List.length_map]; omega), List.getElem?_eq_none (Nat.le_of_not_lt h), List.getElem?_replicate]
    split <;> rfl
theorem pad_get {n i : Nat} {l : En} {s : Sl} (h : (pad n l)[i]? = some s) : l[i]? = some s ∨ s = .un := by
  unfold pad at h
  by_cases q : i < l.length
  · rw [List.getElem?_append_left q] at h; exact .inl h
  · rw [List.getElem?_append_right (by omega), List.getElem?_replicate] at h
    split at h
    · cases h; exact .inr rfl
    · cases h
theorem pad_len {n : Nat} {l : En} (h : l.length ≤ n) : (pad n l).length = n := by
  unfold pad; rw [List.length_append, List.length_replicate]; omega
theorem start_len {N : List Str} {vs : List V} (h : vs.length ≤ N.length) : (L2.start N vs).length = N.length := by
  unfold L2.start; rw [List.length_append, List.length_map, List.length_replicate]; omega
theorem SE.start {N : List Str} {vs : List V} {ds : List PyData} (e : Ex F H) (r : RpA K F vs ds) (hl : vs.length ≤ N.length) : SE K ⟨F, H, []⟩ F H (L2.start N vs) (pad N.length (ds.map .d)) := by
  have no : ∀ i a, ¬ Owns (L2.start N vs) (pad N.length (ds.map .d)) i a := fun i a ⟨_, s, h2, h3⟩ => by
    rcases pad_get h2 with z | z
    · rw [List.getElem?_map] at z
      cases q : ds[i]? with
      | none => rw [q] at z; cases z
      | some d => rw [q] at z; cases z; cases h3
    · subst z; cases h3
  refine ⟨⟨e, .refl _, fun _ _ h _ => h, fun _ h => h, fun _ _ z => .inl z, fun a ha => by cases ha⟩, ?_, fun i s h => ?_, fun i j a hi => absurd hi (no i a), fun i a hi => absurd hi (no i a), fun i a c h1 h2 => absurd ⟨h2, _, h1, rfl⟩ (no i a)⟩
  · rw [start_len hl, pad_len (by rw [List.length_map, ← r.length]; exact hl)]
  · rw [start_get]
    rcases pad_get h with z | z
    · rw [List.getElem?_map] at z
      cases q : ds[i]? with
      | none => rw [q] at z; cases z
      | some d =>
        rw [q] at z; cases z
        obtain ⟨v, h1, h2⟩ := r.get q
        exact ⟨v, h1, h2⟩
    · subst z; trivial
theorem SE.startO {N : List Str} {l : Addr} {us vs : List V} {xs ds : List PyData} (e : Ex F H) (fl : F l = none) (hl0 : H l = some (.lst us)) (ru : RpA K F us xs) (r : RpA K F vs ds) (hl : vs.length + 1 ≤ N.length) :
    SE K ⟨F, H, [l]⟩ F H (L2.start N (.ref l :: vs)) (pad N.length (.o (some l) (.l xs) :: ds.map .d)) := by
  have ow : ∀ i a, Owns (L2.start N (.ref l :: vs)) (pad N.length (.o (some l) (.l xs) :: ds.map .d)) i a → i = 0 ∧ a = l := fun i a ⟨h1, s, h2, h3⟩ => by
    rcases pad_get h2 with z | z
    · cases i with
      | zero =>
        have := start_get (N := N) (vs := .ref l :: vs) (i := 0)
        rw [h1] at this
        cases this
        exact ⟨rfl, rfl⟩
      | succ i =>
        rw [List.getElem?_cons_succ, List.getElem?_map] at z
        cases q : ds[i]? with
        | none => rw [q] at z; cases z
        | some d => rw [q] at z; cases z; cases h3
    · subst z; cases h3
  refine ⟨⟨e, .refl _, fun _ _ h _ => h, fun _ h => h, fun _ _ z => .inl z, fun a ha => ?_⟩, ?_, fun i s h => ?_, fun i j a hi hj => by rw [(ow i a hi).1, (ow j a hj).1], fun i a hi => ?_, fun i a c h1 h2 => ?_⟩
  · cases List.mem_singleton.mp ha
    show H l ≠ none
    rw [hl0]; exact fun z => nomatch z
  · rw [start_len (by simpa using hl), pad_len (by rw [List.length_cons, List.length_map, ← r.length]; exact hl)]
  · rw [start_get]
    rcases pad_get h with z | z
    · cases i with
      | zero => cases z; exact ⟨l, rfl, .inr rfl, us, hl0, ru⟩
      | succ i =>
        rw [List.getElem?_cons_succ, List.getElem?_map] at z
        rw [List.getElem?_cons_succ]
        cases q : ds[i]? with
        | none => rw [q] at z; cases z
        | some d =>
          rw [q] at z; cases z
          obtain ⟨v, h1, h2⟩ := r.get q
          exact ⟨v, h1, h2⟩
    · subst z; trivial
  · obtain ⟨rfl, rfl⟩ := ow i a hi
    refine ⟨fl, ?_, .inr (List.mem_singleton.mpr rfl)⟩
    rw [hl0]; exact fun z => nomatch z
  · obtain ⟨rfl, rfl⟩ := ow i a ⟨h2, _, h1, rfl⟩
    rcases pad_get h1 with z | z
    · cases z
    · cases z
theorem Gr.ofFr {F' H' : Hp} (f : Fr ⟨F, H, []⟩ F' H') : Gr F H F' H' := ⟨f.f0, fun a o h => f.h0 a o h (by simp), f.ext, f.new⟩
theorem GrW.ofFr {l : Addr} {F' H' : Hp} (f : Fr ⟨F, H, [l]⟩ F' H') : GrW l F H F' H' := ⟨f.f0, fun a o q h => f.h0 a o h (by simpa using q), f.ext, f.new⟩
end
section
variable {P : Program} {w : World} {K : PySem.W.Frag} {mg : Str → Option Value} {base : Heap} {x qual : Str} {st : Stmt} {f : Addr} {fd : FuncData} {N ps : List Str} {k : Nat}
abbrev WB (E : XK) : WX := fun cls d _ H => E cls d H
theorem body_run {X : Cx} {E : XK} {Q : VK} {sts : List Stmt} {F H : Hp} {vs : List V} {r : Res} {ds : List PyData} (hK : X.K = K) (ex : Ex F H) (rv : RpA K F vs ds) (hl : vs.length ≤ N.length) (rd : RetD K F H Q E r) :
    tD K (WB E) (pad N.length (ds.map .d)) (Dof r) { nx := fun _ H' => Q .non H', rt := Q } (L2.start N vs) H := by
  refine ⟨⟨F, H, []⟩, F, .start ex rv hl, ?_⟩
  cases r with
  | ret y =>
    exact ⟨fun ρ' F' H' σ' q s => rd _ F' H' (.ofFr s.fr) (by rw [show y = .none from q]; exact .non), fun x ρ' v F' H' σ' q s rp => rd v F' H' (.ofFr s.fr) (by rw [← show x = y from q]; exact rp), fun _ _ _ _ _ _ _ z => z.elim, fun _ _ _ _ z => z.elim, fun _ _ _ _ z => z.elim, fun _ _ _ _ _ _ z => z.elim, fun _ _ _ _ _ _ _ _ _ z => z.elim, fun _ _ _ _ _ _ z => z.elim⟩
  | own c =>
    exact ⟨fun _ _ _ _ z => z.elim, fun _ _ _ _ _ _ z => z.elim, fun _ _ _ _ _ _ _ z => z.elim, fun _ _ _ _ z => z.elim, fun _ _ _ _ z => z.elim, fun c' ρ' p F' H' σ' q s fp hp o => by
      cases (show c' = c from q)
      exact rd p F' H' (.ofFr s.fr) hp fp o, fun _ _ _ _ _ _ _ _ _ z => z.elim, fun _ _ _ _ _ _ z => z.elim⟩
  | own2 c c2 =>
    exact ⟨fun _ _ _ _ z => z.elim, fun _ _ _ _ _ _ z => z.elim, fun _ _ _ _ _ _ _ z => z.elim, fun _ _ _ _ z => z.elim, fun _ _ _ _ z => z.elim, fun _ _ _ _ _ _ z => z.elim, fun c' c2' ρ' t p q F' H' σ' d s ht fp fq hp hq np o1 o2 => by
      obtain ⟨rfl, rfl⟩ := (show c' = c ∧ c2' = c2 from d)
      exact rd t p q F' H' (.ofFr s.fr) ht fp fq hp hq np o1 o2, fun _ _ _ _ _ _ z => z.elim⟩
  | exc cls fs =>
    exact ⟨fun _ _ _ _ z => z.elim, fun _ _ _ _ _ _ z => z.elim, fun c' fs' ρ' d F' H' σ' q s rp => by
      obtain ⟨rfl, rfl⟩ := (show c' = cls ∧ fs' = fs from q)
      exact rd d F' H' (.ofFr s.fr) rp, fun _ _ _ _ z => z.elim, fun _ _ _ _ z => z.elim, fun _ _ _ _ _ _ z => z.elim, fun _ _ _ _ _ _ _ _ _ z => z.elim, fun _ _ _ _ _ _ z => z.elim⟩
  | raw Pr =>
    exact ⟨fun _ _ _ _ z => z.elim, fun _ _ _ _ _ _ z => z.elim, fun _ _ _ _ _ _ _ z => z.elim, fun _ _ _ _ z => z.elim, fun _ _ _ _ z => z.elim, fun _ _ _ _ _ _ z => z.elim, fun _ _ _ _ _ _ _ _ _ z => z.elim, fun P' ρ' v F' H' σ' q s h => by
      cases (show P' = Pr from q)
      exact rd v F' H' (.ofFr s.fr) h⟩
/-- .. with defaults -/
theorem fn_DD {S : List PyData → Res → Prop} {params : Arguments} {body : List Stmt} {scope : Scope} {dvs : List V} {kws : List (Str × V)} (Fn : FunD K x qual params body scope dvs kws f fd) (Sc : FnScope N ps scope) (hlen : ∀ ds r, S ds r → ds.length = ps.length) (hN : ps.length ≤ N.length)
    (hb : ∀ (cdv : Value) (A : Around) (outer : List Env) (s : Shared) (H : Hp) (E : XK), Room k (A.deeper (envOfC qual scope s.heap.objs.size f cdv)) → ∀ ds r, S ds r →
      BD (cxOf (L2N.CX P w) P w K mg base N qual scope f cdv A outer s H E) (WB E) body (pad N.length (ds.map .d)) (Dof r)) : FnOk P w K mg base (L2N.CX P w) (k + 1) f fd ps (spD K S) := by
  refine Fn.ok Sc (fun vs H Q E ⟨F, ds, r, _, rv, s, _⟩ => by rw [rv.length]; exact hlen ds r s) fun cdv A outer s H vs Q E hr ⟨F, ds, r, ex, rv, sr, rd⟩ => ?_
  exact ⟨_, hb cdv A outer s H E hr ds r sr, body_run (X := cxOf (L2N.CX P w) P w K mg base N qual scope f cdv A outer s H E) (sts := []) rfl ex rv (by rw [rv.length, hlen ds r sr]; exact hN) rd⟩
/-- .. where the first argument is changed -/
theorem fn_OD {params : Arguments} {body : List Stmt} {scope : Scope} {dvs : List V} {kws : List (Str × V)} {S : List PyData → List PyData → PyData → List PyData → Prop} (Fn : FunD K x qual params body scope dvs kws f fd) (Sc : FnScope N ps scope) (hlen : ∀ xs ds y xs', S xs ds y xs' → ds.length + 1 = ps.length) (hN : ps.length ≤ N.length)
    (hb : ∀ (cdv : Value) (A : Around) (outer : List Env) (s : Shared) (H : Hp) (E : XK), Room k (A.deeper (envOfC qual scope s.heap.objs.size f cdv)) → ∀ l xs ds y xs', S xs ds y xs' →
      BD (cxOf (L2N.CX P w) P w K mg base N qual scope f cdv A outer s H E) (WB E) body (pad N.length (.o (some l) (.l xs) :: ds.map .d)) { rt := fun x ρ => x = y ∧ ρ[0]? = some (.o (some l) (.l xs')), nx := fun ρ => y = .none ∧ ρ[0]? = some (.o (some l) (.l xs')) }) :
    FnOk P w K mg base (L2N.CX P w) (k + 1) f fd ps (spO K S) := by
  refine Fn.ok Sc (fun vs H Q E ⟨F, l, vs', us, xs, ds, y, xs', ev, _, _, _, _, rv, s, _⟩ => by rw [ev, List.length_cons, rv.length]; exact hlen _ _ _ _ s) fun cdv A outer s H vs Q E hr ⟨F, l, vs', us, xs, ds, y, xs', ev, ex, fl, hl, ru, rv, sr, rd⟩ => ?_
  subst ev
  refine ⟨_, hb cdv A outer s H E hr l xs ds y xs' sr, ⟨F, H, [l]⟩, F, .startO ex fl hl ru rv (by rw [rv.length, hlen _ _ _ _ sr]; exact hN), ?_⟩
  have look : ∀ {C : Cn} {F' H' : Hp} {σ' : L2.St} {ρ' : En}, SE K C F' H' σ' ρ' → ρ'[0]? = some (.o (some l) (.l xs')) → ∃ us', H' l = some (.lst us') ∧ RpA K F' us' xs' := fun {C F' H' σ' ρ'} s h => by
    obtain ⟨l', _, b, ⟨us', c, d⟩, _⟩ := s.getO h
    rcases b with b | b
    · cases b
    · cases b
      exact ⟨us', c, d⟩
  refine ⟨fun ρ' F' H' σ' ⟨q1, q2⟩ s => ?_, fun x ρ' v F' H' σ' ⟨q1, q2⟩ s rp => ?_, fun _ _ _ _ _ _ _ z => z.elim, fun _ _ _ _ z => z.elim, fun _ _ _ _ z => z.elim, fun _ _ _ _ _ _ z => z.elim, fun _ _ _ _ _ _ _ _ _ z => z.elim, fun _ _ _ _ _ _ z => z.elim⟩
  · obtain ⟨us', c, d⟩ := look s q2
    exact rd _ F' H' us' (.ofFr s.fr) c d (by rw [q1]; exact .non)
  · obtain ⟨us', c, d⟩ := look s q2
    exact rd v F' H' us' (.ofFr s.fr) c d (by rw [← q1]; exact rp)
/-- a def that may be called by its name, dvs: the defaults that fill up -/
structure Cal (P : Program) (w : World) (K : PySem.W.Frag) (mg : Str → Option Value) (base : Heap) (k : Nat) (x : Str) (sp : Sp) (dvs : List V) : Prop where
  ex : ∃ (f : Addr) (fd : FuncData) (ps : List Str) (ds : List Value), FnOk P w K mg base (L2N.CX P w) k f fd ps sp ∧ mg x = some (.ref f) ∧ PySem.W.keepIn K (.ref f) = true ∧ Binds K fd ps ds ∧ Vals dvs ds
theorem Cal.mono {j k : Nat} {sp : Sp} {dvs : List V} (c : Cal P w K mg base j x sp dvs) (h : j ≤ k) : Cal P w K mg base k x sp dvs := by
  obtain ⟨f, fd, ps, ds, a, b⟩ := c.ex
  exact ⟨f, fd, ps, ds, a.mono h, b⟩
end
/-- defaults as data: ints, texts, None, booleans -/
inductive Dfs : List V → List PyData → Prop
  | nil : Dfs [] []
  | int {i : Int} {vs : List V} {ds : List PyData} : Dfs vs ds → Dfs (.int i :: vs) (.int i :: ds)
  | str {i : Str} {vs : List V} {ds : List PyData} : Dfs vs ds → Dfs (.str i :: vs) (.str i :: ds)
  | bl {i : Bool} {vs : List V} {ds : List PyData} : Dfs vs ds → Dfs (.bl i :: vs) (.bool i :: ds)
  | non {vs : List V} {ds : List PyData} : Dfs vs ds → Dfs (.non :: vs) (.none :: ds)
theorem Dfs.rp {K : PySem.W.Frag} {F : Hp} : ∀ {vs : List V} {ds : List PyData}, Dfs vs ds → RpA K F vs ds
  | _, _, .nil => .nil
  | _, _, .int h => .cons (.int _) h.rp
  | _, _, .str h => .cons (.str _) h.rp
  | _, _, .bl h => .cons (.bl _) h.rp
  | _, _, .non h => .cons .non h.rp
section
variable {X : Cx} {W : WX} {e a b c : Expr} {es : List Expr} {p pos pos' : Pos} {ρ ρ' ρ1 ρ2 ρ3 : En} {y z : PyData} {xs ys xs' ds : List PyData} {i j k : Nat} {x : Str} {dvs : List V} {dds : List PyData}
theorem passE0 {X : Cx} (σ : L2.St) : PassesAt (L2N.CX X.prog X.w) X σ E0 := fun _ _ _ _ _ _ h => by
  obtain ⟨_, _, _, _, _, _, _, _, _, _, _, _, z⟩ := h
  exact z.elim
theorem pd_call {S : List PyData → Res → Prop} (cl : Cal X.prog X.w X.K X.mg X.base j x (spD X.K S) dvs) (hr : Room k X.A) (hd : Dfs dvs dds) (ha : AD X (e :: es) ρ ds ρ1) (hS : S (ds ++ dds) (.ret y)) (hk : j ≤ k := by decide) (hg : Gl X x := by rfl)
    (hdb : (x == ("__debug__" : Str)) = false := by decide) (he : starEach (e :: es) X.env = (false, eval e X.env) :: starEach es X.env := by rfl) (hpl : (backTo pos (starEach es X.env)).any (·.1) = false := by rfl) :
    PD X (.Call (.Name x p) (e :: es) [] pos) ρ y ρ1 := by
  obtain ⟨f, fd, ps, dd, fn, hm, kp, bi, vv⟩ := cl.ex
  refine PE_imp (pe_callSD fn (hr.mono hk) hg hm kp bi vv (fun σ => passE0 σ) ha hdb he hpl) fun σ H Q ⟨C, F, se, q⟩ => ⟨C, F, se, fun vs F1 H1 x1 e1 r1 => ?_⟩
  exact ⟨F1, _, _, e1.fr.ext, r1.append hd.rp, hS, fun v F2 H2 g r => q v F2 H2 (x1.trans g.f) (e1.grow g) r⟩
theorem pn_call {S : List PyData → Res → Prop} {ct : Ct} (cl : Cal X.prog X.w X.K X.mg X.base j x (spD X.K S) dvs) (hr : Room k X.A) (hd : Dfs dvs dds) (ha : AD X (e :: es) ρ ds ρ1) (hS : S (ds ++ dds) (.own ct)) (hk : j ≤ k := by decide) (hg : Gl X x := by rfl)
    (hdb : (x == ("__debug__" : Str)) = false := by decide) (he : starEach (e :: es) X.env = (false, eval e X.env) :: starEach es X.env := by rfl) (hpl : (backTo pos (starEach es X.env)).any (·.1) = false := by rfl) :
    PN X (.Call (.Name x p) (e :: es) [] pos) ρ ct ρ1 := by
  obtain ⟨f, fd, ps, dd, fn, hm, kp, bi, vv⟩ := cl.ex
  refine PE_imp (pe_callSD fn (hr.mono hk) hg hm kp bi vv (fun σ => passE0 σ) ha hdb he hpl) fun σ H Q ⟨C, F, se, q⟩ => ⟨C, F, se, fun vs F1 H1 x1 e1 r1 => ?_⟩
  exact ⟨F1, _, _, e1.fr.ext, r1.append hd.rp, hS, fun p F2 H2 g hp fp o => q p F2 H2 (x1.trans g.f) (e1.grow g) fp (e1.fr.there p hp) (not_owns_new e1 hp) o⟩
/-- an expression that raises -/
def tX (K : PySem.W.Frag) (W : WX) (ρ : En) (cls : Value) (fs : List (Str × PyData)) (ρ' : En) : TE := fun σ H _ => ∃ C F, SE K C F H σ ρ ∧ ∀ d F' H', Ex F F' → SE K C F' H' σ ρ' → ExRep K F' H' d fs → W cls d σ H'
abbrev PX (X : Cx) (W : WX) (e : Expr) (ρ : En) (cls : Value) (fs : List (Str × PyData)) (ρ' : En) : Prop := PE X e (tX X.K W ρ cls fs ρ')
theorem px_call {S : List PyData → Res → Prop} {cls : Value} {fs : List (Str × PyData)} (tk : L2N.Takes X W) (cl : Cal X.prog X.w X.K X.mg X.base j x (spD X.K S) dvs) (hr : Room k X.A) (hd : Dfs dvs dds) (ha : AD X (e :: es) ρ ds ρ1) (hS : S (ds ++ dds) (.exc cls fs)) (hk : j ≤ k := by decide) (hg : Gl X x := by rfl)
    (hdb : (x == ("__debug__" : Str)) = false := by decide) (he : starEach (e :: es) X.env = (false, eval e X.env) :: starEach es X.env := by rfl) (hpl : (backTo pos (starEach es X.env)).any (·.1) = false := by rfl) :
    PX X W (.Call (.Name x p) (e :: es) [] pos) ρ cls fs ρ1 := by
  obtain ⟨f, fd, ps, dd, fn, hm, kp, bi, vv⟩ := cl.ex
  refine PE_imp (pe_callSD fn (hr.mono hk) hg hm kp bi vv (fun σ => L2N.passAt tk σ) ha hdb he hpl) fun σ H Q ⟨C, F, se, q⟩ => ⟨C, F, se, fun vs F1 H1 x1 e1 r1 => ?_⟩
  exact ⟨F1, _, _, e1.fr.ext, r1.append hd.rp, hS, fun d F2 H2 g r => q d F2 H2 (x1.trans g.f) (e1.grow g) r⟩
/-- the first argument a name that owns its list, which is changed -/
theorem pd_callO {S : List PyData → List PyData → PyData → List PyData → Prop} {o : Str} {p0 : Pos} {pa pb : Option Addr} (i : Nat) (cl : Cal X.prog X.w X.K X.mg X.base j x (spO X.K S) dvs) (hr : Room k X.A) (hd : Dfs dvs dds) (h0 : ρ[i]? = some (.o pa (.l ys))) (ha : AD X es ρ ds ρ1) (h1 : ρ1[i]? = some (.o pb (.l xs))) (hS : S xs (ds ++ dds) y xs') (hk : j ≤ k := by decide) (hg : Gl X x := by rfl)
    (hN : X.N[i]? = some o := by rfl) (hv : Vis X.env.scope o := by first | exact Or.inl rfl | exact Or.inr (Or.inl rfl) | exact Or.inr (Or.inr rfl)) (hdo : (o == ("__debug__" : Str)) = false := by decide) (hcd : (o == ("__classdict__" : Str)) = false := by decide)
    (hdb : (x == ("__debug__" : Str)) = false := by decide) (he : starEach (.Name o p0 :: es) X.env = (false, eval (.Name o p0) X.env) :: starEach es X.env := by rfl) (hpl : (backTo pos (starEach es X.env)).any (·.1) = false := by rfl) :
    PD X (.Call (.Name x p) (.Name o p0 :: es) [] pos) ρ y (ρ1.set i (.o pb (.l xs'))) := by
  obtain ⟨f, fd, ps, dd, fn, hm, kp, bi, vv⟩ := cl.ex
  refine PE_imp (pe_callSD fn (hr.mono hk) hg hm kp bi vv (fun σ => passE0 σ) (pa_cons (pe_var hN hv hdo hcd) ha he) hdb he hpl) fun σ H Q ⟨C, F, se, q⟩ => ?_
  obtain ⟨l, a1, _, _, a4⟩ := se.getO h0
  refine ⟨.ref l, a1, C, F, se, fun vs F1 H1 x1 e1 r1 => ?_⟩
  obtain ⟨l', b1, b2, ⟨us, b3, b5⟩, b4⟩ := e1.getO h1
  rw [a1] at b1
  cases b1
  refine ⟨F1, l, vs ++ dvs, us, xs, ds ++ dds, y, xs', rfl, e1.fr.ext, (e1.own i l b4).1, b3, b5, r1.append hd.rp, hS, fun v F2 H2 us' g h2 ru rv => ?_⟩
  exact q v F2 H2 (x1.trans g.f) (e1.wrg g h1 a1 ⟨us', h2, ru⟩) rv
end
end G

/-! GBuiltin: built-in functions and operations in words of data. -/
namespace G
open PySem PySem.Spec PyProof.Rows L2

theorem rpa_one {K : PySem.W.Frag} {F : Hp} {vs : List V} {x : PyData} (r : RpA K F vs [x]) : ∃ v, vs = [v] ∧ Rp K F v x := by
  cases r with
  | cons a b => cases b; exact ⟨_, rfl, a⟩
theorem rpa_two {K : PySem.W.Frag} {F : Hp} {vs : List V} {x y : PyData} (r : RpA K F vs [x, y]) : ∃ v w, vs = [v, w] ∧ Rp K F v x ∧ Rp K F w y := by
  cases r with
  | cons a b =>
    obtain ⟨w, rfl, h⟩ := rpa_one b
    exact ⟨_, _, rfl, a, h⟩
/-- a built-in function's reading takes data to data -/
def FnD (K : PySem.W.Frag) (r : List V → Hp → VK → Prop) (xs : List PyData) (y : PyData) : Prop := ∀ (F H : Hp) (vs : List V) (Q : VK), Ex F H → RpA K F vs xs → (∀ v F' H', Gr F H F' H' → Rp K F' v y → Q v H') → r vs H Q
/-- .. to a new object -/
def FnN (K : PySem.W.Frag) (r : List V → Hp → VK → Prop) (xs : List PyData) (c : Ct) : Prop := ∀ (F H : Hp) (vs : List V) (Q : VK), Ex F H → RpA K F vs xs → (∀ p F' H', Gr F H F' H' → H p = none → F' p = none → Own1 K F' H' p c → Q (.ref p) H') → r vs H Q
section
variable {X : Cx} {W : WX} {e a b c : Expr} {es : List Expr} {p pos pos' apos : Pos} {ρ ρ' ρ1 ρ2 ρ3 : En} {x y z : PyData} {xs ys zs ds : List PyData} {i j : Int} {k : Nat} {w : Str} {s t : Str} {id T : String} {r : List V → Hp → VK → Prop} {ct : Ct}
theorem pd_bi (hc : CallR X (.builtin id) r) (hf : FnD X.K r ds y) (ha : AD X (e :: es) ρ ds ρ1) (hm : X.mg w = none) (hv : bootBuiltins w = some (.builtin id) := by rfl) (hg : Gl X w := by rfl) (hn : w ≠ "__name__" := by decide) (hdb : (w == ("__debug__" : Str)) = false := by decide)
    (he : starEach (e :: es) X.env = (false, eval e X.env) :: starEach es X.env := by rfl) (hpl : (backTo pos (starEach es X.env)).any (·.1) = false := by rfl) : PD X (.Call (.Name w p) (e :: es) [] pos) ρ y ρ1 :=
  PE_imp (pe_callB hc hg hm hv ha hn hdb he hpl) fun σ H Q ⟨C, F, se, q⟩ => ⟨C, F, se, fun vs F1 H1 x1 e1 r1 => hf F1 H1 vs Q e1.fr.ext r1 fun v F2 H2 g r2 => q v F2 H2 (x1.trans g.f) (e1.grow g) r2⟩
theorem pd_ty (hc : CallR X (.type T) r) (hf : FnD X.K r ds y) (ha : AD X (e :: es) ρ ds ρ1) (hm : X.mg w = none) (hv : bootBuiltins w = some (.type T) := by rfl) (hg : Gl X w := by rfl) (hn : w ≠ "__name__" := by decide) (hdb : (w == ("__debug__" : Str)) = false := by decide)
    (he : starEach (e :: es) X.env = (false, eval e X.env) :: starEach es X.env := by rfl) (hpl : (backTo pos (starEach es X.env)).any (·.1) = false := by rfl) : PD X (.Call (.Name w p) (e :: es) [] pos) ρ y ρ1 :=
  PE_imp (pe_callTy hc hg hm hv ha hn hdb he hpl) fun σ H Q ⟨C, F, se, q⟩ => ⟨C, F, se, fun vs F1 H1 x1 e1 r1 => hf F1 H1 vs Q e1.fr.ext r1 fun v F2 H2 g r2 => q v F2 H2 (x1.trans g.f) (e1.grow g) r2⟩
theorem pn_of {K : PySem.W.Frag} {C : Cn} {F F1 H1 : Hp} {σ : L2.St} {Q : VK} (x1 : Ex F F1) (e1 : SE K C F1 H1 σ ρ1) (q : ∀ p F' H', Ex F F' → SE K C F' H' σ ρ1 → F' p = none → C.H0 p = none → (∀ j, ¬ Owns σ ρ1 j p) → Own1 K F' H' p ct → Q (.ref p) H') :
    ∀ p F' H', Gr F1 H1 F' H' → H1 p = none → F' p = none → Own1 K F' H' p ct → Q (.ref p) H' := fun p F2 H2 g hp fp o => q p F2 H2 (x1.trans g.f) (e1.grow g) fp (e1.fr.there p hp) (not_owns_new e1 hp) o
theorem pn_bi (hc : CallR X (.builtin id) r) (hf : FnN X.K r ds ct) (ha : AD X (e :: es) ρ ds ρ1) (hm : X.mg w = none) (hv : bootBuiltins w = some (.builtin id) := by rfl) (hg : Gl X w := by rfl) (hn : w ≠ "__name__" := by decide) (hdb : (w == ("__debug__" : Str)) = false := by decide)
    (he : starEach (e :: es) X.env = (false, eval e X.env) :: starEach es X.env := by rfl) (hpl : (backTo pos (starEach es X.env)).any (·.1) = false := by rfl) : PN X (.Call (.Name w p) (e :: es) [] pos) ρ ct ρ1 :=
  PE_imp (pe_callB hc hg hm hv ha hn hdb he hpl) fun σ H Q ⟨C, F, se, q⟩ => ⟨C, F, se, fun vs F1 H1 x1 e1 r1 => hf F1 H1 vs Q e1.fr.ext r1 (pn_of x1 e1 q)⟩
theorem pn_ty (hc : CallR X (.type T) r) (hf : FnN X.K r ds ct) (ha : AD X (e :: es) ρ ds ρ1) (hm : X.mg w = none) (hv : bootBuiltins w = some (.type T) := by rfl) (hg : Gl X w := by rfl) (hn : w ≠ "__name__" := by decide) (hdb : (w == ("__debug__" : Str)) = false := by decide)
    (he : starEach (e :: es) X.env = (false, eval e X.env) :: starEach es X.env := by rfl) (hpl : (backTo pos (starEach es X.env)).any (·.1) = false := by rfl) : PN X (.Call (.Name w p) (e :: es) [] pos) ρ ct ρ1 :=
  PE_imp (pe_callTy hc hg hm hv ha hn hdb he hpl) fun σ H Q ⟨C, F, se, q⟩ => ⟨C, F, se, fun vs F1 H1 x1 e1 r1 => hf F1 H1 vs Q e1.fr.ext r1 (pn_of x1 e1 q)⟩
theorem ad_one (h : PD X e ρ x ρ1) (hs : starEach [e] X.env = (false, eval e X.env) :: starEach [] X.env := by rfl) : AD X [e] ρ [x] ρ1 := ad_cons h ad_nil hs
theorem ad_two (ha : PD X a ρ x ρ1) (hb : PD X b ρ1 y ρ2) (hs : starEach [a, b] X.env = (false, eval a X.env) :: starEach [b] X.env := by rfl) (hs2 : starEach [b] X.env = (false, eval b X.env) :: starEach [] X.env := by rfl) : AD X [a, b] ρ [x, y] ρ2 := ad_cons ha (ad_one hb hs2) hs

/-! ### ints -/
theorem pd_abs (hm : X.mg ("abs" : Str) = none) (ha : PD X a ρ (.int i) ρ1) (hg : Gl X "abs" := by rfl) (he : starEach [a] X.env = (false, eval a X.env) :: starEach [] X.env := by rfl) : PD X (.Call (.Name "abs" p) [a] [] pos) ρ (.int (i.natAbs : Int)) ρ1 :=
  pd_bi call_abs (fun F H vs Q e r q => by
    obtain ⟨v, rfl, h⟩ := rpa_one r
    rw [rp_int h]
    refine ⟨i, rfl, q _ F H (.refl e) ?_⟩
    rw [show (if i < 0 then -i else i) = (i.natAbs : Int) by split <;> omega]
    exact .int _) (ad_one ha he) hm rfl hg (by decide) (by decide) he
theorem pd_int1 (hm : X.mg ("int" : Str) = none) (ha : PD X a ρ (.int i) ρ1) (hg : Gl X "int" := by rfl) (he : starEach [a] X.env = (false, eval a X.env) :: starEach [] X.env := by rfl) : PD X (.Call (.Name "int" p) [a] [] pos) ρ (.int i) ρ1 :=
  pd_ty call_int1 (fun F H vs Q e r q => by
    obtain ⟨v, rfl, h⟩ := rpa_one r
    rw [rp_int h]
    exact .inl ⟨i, rfl, q _ F H (.refl e) (.int _)⟩) (ad_one ha he) hm rfl hg (by decide) (by decide) he
theorem pd_max2 (hc : X.calm = true) (hm : X.mg ("max" : Str) = none) (ha : PD X a ρ (.int i) ρ1) (hb : PD X b ρ1 (.int j) ρ2) (hg : Gl X "max" := by rfl) (he : starEach [a, b] X.env = (false, eval a X.env) :: starEach [b] X.env := by rfl) (he2 : starEach [b] X.env = (false, eval b X.env) :: starEach [] X.env := by rfl) (hpl : (backTo pos (starEach [b] X.env)).any (·.1) = false := by rfl) :
    PD X (.Call (.Name "max" p) [a, b] [] pos) ρ (.int (max i j)) ρ2 :=
  pd_bi (call_max2 hc) (fun F H vs Q e r q => by
    obtain ⟨v, w, rfl, h, h'⟩ := rpa_two r
    rw [rp_int h, rp_int h']
    refine ⟨i, j, rfl, q _ F H (.refl e) ?_⟩
    rw [show (if j > i then j else i) = max i j by omega]
    exact .int _) (ad_two ha hb he he2) hm rfl hg (by decide) (by decide) he hpl
theorem pd_min2 (hc : X.calm = true) (hm : X.mg ("min" : Str) = none) (ha : PD X a ρ (.int i) ρ1) (hb : PD X b ρ1 (.int j) ρ2) (hg : Gl X "min" := by rfl) (he : starEach [a, b] X.env = (false, eval a X.env) :: starEach [b] X.env := by rfl) (he2 : starEach [b] X.env = (false, eval b X.env) :: starEach [] X.env := by rfl) (hpl : (backTo pos (starEach [b] X.env)).any (·.1) = false := by rfl) :
    PD X (.Call (.Name "min" p) [a, b] [] pos) ρ (.int (min i j)) ρ2 :=
  pd_bi (call_min2 hc) (fun F H vs Q e r q => by
    obtain ⟨v, w, rfl, h, h'⟩ := rpa_two r
    rw [rp_int h, rp_int h']
    refine ⟨i, j, rfl, q _ F H (.refl e) ?_⟩
    rw [show (if j < i then j else i) = min i j by omega]
    exact .int _) (ad_two ha hb he he2) hm rfl hg (by decide) (by decide) he hpl
theorem pd_mulW (hc : CMulW i j) (ha : PD X a ρ (.int i) ρ1) (hb : PD X b ρ1 (.int j) ρ2) : PD X (.BinOp a .Mult b pos) ρ (.int (i * j)) ρ2 := pd_op op_mulW (opd_I hc fun _ => .int _) ha hb
/-- // and % of any int by a small one -/
theorem pd_fdivN (hc : CDivN i j) (ha : PD X a ρ (.int i) ρ1) (hb : PD X b ρ1 (.int j) ρ2) : PD X (.BinOp a .FloorDiv b pos) ρ (.int (i.fdiv j)) ρ2 := pd_op op_fdivN (opd_I hc fun _ => .int _) ha hb
/-- a op b op c, of ints -/
def cmpI : CmpOp → Option (Int → Int → Bool)
  | .Lt => some fun i j => decide (i < j)
  | .LtE => some fun i j => decide (i ≤ j)
  | .Gt => some fun i j => decide (j < i)
  | .GtE => some fun i j => decide (j ≤ i)
  | _ => none
theorem op_cmpI {op : CmpOp} {f : Int → Int → Bool} (h : cmpI op = some f) : OpR X (compareOp op) (rI0 fun i j => .bl (f i j)) := by
  cases op <;> first | (cases h; first | exact op_lt | exact op_le | exact op_gt | exact op_ge) | cases h
theorem pd_chain {op op' : CmpOp} {f g : Int → Int → Bool} {l : Int} (hf : cmpI op = some f) (hg : cmpI op' = some g) (ha : PD X a ρ (.int i) ρ1) (hb : PD X b ρ1 (.int j) ρ2) (hc : f i j = true → PD X c ρ2 (.int l) ρ2)
    (hm : lastMarks [op, op'] [b, c] = false := by with_unfolding_all rfl) : PD X (.Compare a [op, op'] [b, c] pos) ρ (.bool (f i j && g j l)) ρ2 := by
  cases q : f i j with
  | true =>
    refine PE_imp (pe_chain (op_cmpI hf) (op_cmpI hg) ha hb (hc q) hm) fun σ H Q ⟨C, F, se, qq⟩ => ⟨C, F, se, fun v F1 H1 x1 e1 r1 => ⟨C, F1, e1, fun u F2 H2 x2 e2 r2 => ⟨i, j, rp_int r1, rp_int r2, true, congrArg V.bl q, ?_⟩⟩⟩
    rw [if_pos rfl]
    exact ⟨C, F2, e2, fun t F3 H3 x3 e3 r3 => ⟨j, l, rp_int r2, rp_int r3, qq _ F3 H3 (x1.trans (x2.trans x3)) e3 (by rw [Bool.true_and]; exact .bl _)⟩⟩
  | false =>
    have hc' : PE X c (fun _ _ _ => False) := ⟨fun _ _ _ _ _ _ h => h.elim⟩
    refine PE_imp (pe_chain (op_cmpI hf) (op_cmpI hg) ha hb hc' hm) fun σ H Q ⟨C, F, se, qq⟩ => ⟨C, F, se, fun v F1 H1 x1 e1 r1 => ⟨C, F1, e1, fun u F2 H2 x2 e2 r2 => ⟨i, j, rp_int r1, rp_int r2, false, congrArg V.bl q, ?_⟩⟩⟩
    rw [if_neg Bool.false_ne_true]
    exact qq _ F2 H2 (x1.trans x2) e2 (.bl _)
theorem td_chain {op op' : CmpOp} {f g : Int → Int → Bool} {l : Int} (hf : cmpI op = some f) (hg : cmpI op' = some g) (ha : PD X a ρ (.int i) ρ1) (hb : PD X b ρ1 (.int j) ρ2) (hc : f i j = true → PD X c ρ2 (.int l) ρ2)
    (hm : lastMarks [op, op'] [b, c] = false := by with_unfolding_all rfl) : TD X (.Compare a [op, op'] [b, c] pos) ρ (f i j && g j l) ρ2 := by
  cases q : f i j with
  | true =>
    refine PT_imp (pt_chain (op_cmpI hf) (op_cmpI hg) ha hb (hc q) hm) fun σ H Q ⟨C, F, se, qq⟩ => ⟨C, F, se, fun v F1 H1 x1 e1 r1 => ⟨C, F1, e1, fun u F2 H2 x2 e2 r2 => ⟨i, j, rp_int r1, rp_int r2, true, congrArg V.bl q, ?_⟩⟩⟩
    rw [if_pos rfl]
    exact ⟨C, F2, e2, fun t F3 H3 x3 e3 r3 => ⟨j, l, rp_int r2, rp_int r3, _, rfl, qq F3 H3 (x1.trans (x2.trans x3)) e3⟩⟩
  | false =>
    have hc' : PE X c (fun _ _ _ => False) := ⟨fun _ _ _ _ _ _ h => h.elim⟩
    refine PT_imp (pt_chain (op_cmpI hf) (op_cmpI hg) ha hb hc' hm) fun σ H Q ⟨C, F, se, qq⟩ => ⟨C, F, se, fun v F1 H1 x1 e1 r1 => ⟨C, F1, e1, fun u F2 H2 x2 e2 r2 => ⟨i, j, rp_int r1, rp_int r2, false, congrArg V.bl q, ?_⟩⟩⟩
    rw [if_neg Bool.false_ne_true]
    exact ⟨_, rfl, qq F2 H2 (x1.trans x2) e2⟩

/-! ### lists -/
theorem pd_len {src : Option Nat} (hm : X.mg ("len" : Str) = none) (h : PQ X a ρ src xs ρ1) (ok : SrcOk ρ1 src xs) (hg : Gl X "len" := by rfl) (he : starEach [a] X.env = (false, eval a X.env) :: starEach [] X.env := by rfl) : PD X (.Call (.Name "len" p) [a] [] pos) ρ (.int (xs.length : Int)) ρ1 :=
  PE_imp (pe_callB call_len hg hm rfl (pa_cons h pa_nil he) (by decide) (by decide) he) fun σ H Q ⟨C, F, se, q⟩ => ⟨C, F, se, fun v F1 H1 x1 e1 r1 => by
    obtain ⟨a, vs, rfl, l, rr⟩ := r1.look e1 ok
    exact ⟨_, _, rfl, .inl ⟨vs, l, rfl⟩, q _ F1 H1 x1 e1 (by rw [rr.length]; exact .int _)⟩⟩
theorem pd_lenT (hm : X.mg ("len" : Str) = none) (h : PD X a ρ (.tuple xs) ρ1) (hg : Gl X "len" := by rfl) (he : starEach [a] X.env = (false, eval a X.env) :: starEach [] X.env := by rfl) : PD X (.Call (.Name "len" p) [a] [] pos) ρ (.int (xs.length : Int)) ρ1 :=
  pd_bi call_len (fun F H vs Q e r q => by
    obtain ⟨v, rfl, h⟩ := rpa_one r
    cases h with
    | tup h1 h2 => exact ⟨_, _, rfl, .inr ⟨_, SqT.of (e _ _ h1), rfl⟩, q _ F H (.refl e) (by rw [h2.length]; exact .int _)⟩) (ad_one h he) hm rfl hg (by decide) (by decide) he
theorem pd_lenS (hl : s.length ≤ sizeLine) (hm : X.mg ("len" : Str) = none) (h : PD X a ρ (.str s) ρ1) (hg : Gl X "len" := by rfl) (he : starEach [a] X.env = (false, eval a X.env) :: starEach [] X.env := by rfl) : PD X (.Call (.Name "len" p) [a] [] pos) ρ (.int (s.length : Int)) ρ1 :=
  pd_bi call_len (fun F H vs Q e r q => by
    obtain ⟨v, rfl, h⟩ := rpa_one r
    rw [rp_str h]
    exact ⟨_, _, rfl, ⟨hl, rfl⟩, q _ F H (.refl e) (.int _)⟩) (ad_one h he) hm rfl hg (by decide) (by decide) he
theorem pn_list {src : Option Nat} (hm : X.mg ("list" : Str) = none) (h : PQ X a ρ src xs ρ1) (ok : SrcOk ρ1 src xs) (hg : Gl X "list" := by rfl) (he : starEach [a] X.env = (false, eval a X.env) :: starEach [] X.env := by rfl) : PN X (.Call (.Name "list" p) [a] [] pos) ρ (.l xs) ρ1 :=
  PE_imp (pe_callTy call_list_of hg hm rfl (pa_cons h pa_nil he) (by decide) (by decide) he) fun σ H Q ⟨C, F, se, q⟩ => ⟨C, F, se, fun v F1 H1 x1 e1 r1 => by
    obtain ⟨a, vs, rfl, l, rr⟩ := r1.look e1 ok
    refine ⟨a, vs, rfl, .inl l, fun p hp => ?_⟩
    obtain ⟨h1, h2, h3, h4⟩ := e1.lay (o := .lst vs) hp
    exact q p F1 _ x1 h1 h2 h3 h4 ⟨vs, upd_same, rr⟩⟩
theorem pn_listT (hm : X.mg ("list" : Str) = none) (h : PD X a ρ (.tuple xs) ρ1) (hg : Gl X "list" := by rfl) (he : starEach [a] X.env = (false, eval a X.env) :: starEach [] X.env := by rfl) : PN X (.Call (.Name "list" p) [a] [] pos) ρ (.l xs) ρ1 :=
  PE_imp (pe_callTy call_list_of hg hm rfl (pa_cons h pa_nil he) (by decide) (by decide) he) fun σ H Q ⟨C, F, se, q⟩ => ⟨C, F, se, fun v F1 H1 x1 e1 r1 => by
    cases r1 with
    | @tup a vs _ l rr =>
      refine ⟨a, vs, rfl, .inr (SqT.of (e1.fr.ext _ _ l)), fun p hp => ?_⟩
      obtain ⟨h1, h2, h3, h4⟩ := e1.lay (o := .lst vs) hp
      exact q p F1 _ x1 h1 h2 h3 h4 ⟨vs, upd_same, rr⟩⟩
theorem pd_tuple {src : Option Nat} (hm : X.mg ("tuple" : Str) = none) (h : PQ X a ρ src xs ρ1) (ok : SrcOk ρ1 src xs) (hg : Gl X "tuple" := by rfl) (he : starEach [a] X.env = (false, eval a X.env) :: starEach [] X.env := by rfl) : PD X (.Call (.Name "tuple" p) [a] [] pos) ρ (.tuple xs) ρ1 :=
  PE_imp (pe_callTy call_tuple_of hg hm rfl (pa_cons h pa_nil he) (by decide) (by decide) he) fun σ H Q ⟨C, F, se, q⟩ => ⟨C, F, se, fun v F1 H1 x1 e1 r1 => by
    obtain ⟨a, vs, rfl, l, rr⟩ := r1.look e1 ok
    refine ⟨a, vs, rfl, .inl ⟨l, fun p hp => ?_⟩⟩
    exact q (.ref p) _ _ (x1.trans (.new (e1.fr.ext.none hp))) (e1.grow (.push e1.fr.ext hp)) (.tup upd_same (rr.mono (.new (e1.fr.ext.none hp))))⟩
/-- of ints: their greatest, their least -/
def lmax (ns : List Int) : Int := match ns with | [] => 0 | n :: r => r.foldl max n
def lmin (ns : List Int) : Int := match ns with | [] => 0 | n :: r => r.foldl min n
theorem fmax_le : ∀ (r : List Int) (n : Int), n ≤ r.foldl max n ∧ (∀ y ∈ r, y ≤ r.foldl max n) ∧ (r.foldl max n = n ∨ r.foldl max n ∈ r)
  | [], n => ⟨Int.le_refl _, (fun y hy => nomatch hy), .inl rfl⟩
  | m :: r, n => by
    obtain ⟨h1, h2, h3⟩ := fmax_le r (max n m)
    refine ⟨?_, fun y hy => ?_, ?_⟩
    · show n ≤ r.foldl max (max n m); omega
    · show y ≤ r.foldl max (max n m)
      rcases List.mem_cons.mp hy with z | z
      · omega
      · exact h2 y z
    · show r.foldl max (max n m) = n ∨ r.foldl max (max n m) ∈ m :: r
      rcases h3 with z | z
      · rw [z]
        by_cases q : n ≤ m
        · exact .inr (by rw [show max n m = m by omega]; exact List.mem_cons_self)
        · exact .inl (by omega)
      · exact .inr (List.mem_cons_of_mem _ z)
theorem fmin_le : ∀ (r : List Int) (n : Int), r.foldl min n ≤ n ∧ (∀ y ∈ r, r.foldl min n ≤ y) ∧ (r.foldl min n = n ∨ r.foldl min n ∈ r)
  | [], n => ⟨Int.le_refl _, (fun y hy => nomatch hy), .inl rfl⟩
  | m :: r, n => by
    obtain ⟨h1, h2, h3⟩ := fmin_le r (min n m)
    refine ⟨?_, fun y hy => ?_, ?_⟩
    · show r.foldl min (min n m) ≤ n; omega
    · show r.foldl min (min n m) ≤ y
      rcases List.mem_cons.mp hy with z | z
      · omega
      · exact h2 y z
    · show r.foldl min (min n m) = n ∨ r.foldl min (min n m) ∈ m :: r
      rcases h3 with z | z
      · rw [z]
        by_cases q : m ≤ n
        · exact .inr (by rw [show min n m = m by omega]; exact List.mem_cons_self)
        · exact .inl (by omega)
      · exact .inr (List.mem_cons_of_mem _ z)
theorem lmax_mem {ns : List Int} (h : 0 < ns.length) : lmax ns ∈ ns := by
  cases ns with
  | nil => simp at h
  | cons n r =>
    rcases (fmax_le r n).2.2 with z | z
    · show r.foldl max n ∈ n :: r
      rw [z]; exact List.mem_cons_self
    · exact List.mem_cons_of_mem _ z
theorem lmax_le {ns : List Int} : ∀ y ∈ ns, y ≤ lmax ns := by
  cases ns with
  | nil => intro y h; cases h
  | cons n r =>
    intro y h
    rcases List.mem_cons.mp h with z | z
    · rw [z]; exact (fmax_le r n).1
    · exact (fmax_le r n).2.1 y z
theorem lmin_mem {ns : List Int} (h : 0 < ns.length) : lmin ns ∈ ns := by
  cases ns with
  | nil => simp at h
  | cons n r =>
    rcases (fmin_le r n).2.2 with z | z
    · show r.foldl min n ∈ n :: r
      rw [z]; exact List.mem_cons_self
    · exact List.mem_cons_of_mem _ z
theorem lmin_le {ns : List Int} : ∀ y ∈ ns, lmin ns ≤ y := by
  cases ns with
  | nil => intro y h; cases h
  | cons n r =>
    intro y h
    rcases List.mem_cons.mp h with z | z
    · rw [z]; exact (fmin_le r n).1
    · exact (fmin_le r n).2.1 y z
theorem pd_sum {ns : List Int} {src : Option Nat} (hc : X.calm = true) (hm : X.mg ("sum" : Str) = none) (h : PQ X a ρ src (ns.map .int) ρ1) (ok : SrcOk ρ1 src (ns.map .int)) (hg : Gl X "sum" := by rfl) (he : starEach [a] X.env = (false, eval a X.env) :: starEach [] X.env := by rfl) : PD X (.Call (.Name "sum" p) [a] [] pos) ρ (.int ns.sum) ρ1 :=
  PE_imp (pe_callB (cr_sum hc) hg hm rfl (pa_cons h pa_nil he) (by decide) (by decide) he) fun σ H Q ⟨C, F, se, q⟩ => ⟨C, F, se, fun v F1 H1 x1 e1 r1 => by
    obtain ⟨a, vs, rfl, l, rr⟩ := r1.look e1 ok
    rw [rr.ints_inv] at l
    exact ⟨_, ns, rfl, l, q _ F1 H1 x1 e1 (.int _)⟩⟩
theorem pd_maxL {ns : List Int} {src : Option Nat} (hc : X.calm = true) (hm : X.mg ("max" : Str) = none) (hn : 0 < ns.length) (h : PQ X a ρ src (ns.map .int) ρ1) (ok : SrcOk ρ1 src (ns.map .int)) (hg : Gl X "max" := by rfl) (he : starEach [a] X.env = (false, eval a X.env) :: starEach [] X.env := by rfl) : PD X (.Call (.Name "max" p) [a] [] pos) ρ (.int (lmax ns)) ρ1 :=
  PE_imp (pe_callB (cr_max hc) hg hm rfl (pa_cons h pa_nil he) (by decide) (by decide) he) fun σ H Q ⟨C, F, se, q⟩ => ⟨C, F, se, fun v F1 H1 x1 e1 r1 => by
    obtain ⟨a, vs, rfl, l, rr⟩ := r1.look e1 ok
    rw [rr.ints_inv] at l
    refine ⟨_, ns, rfl, l, hn, fun m m1 m2 => q _ F1 H1 x1 e1 ?_⟩
    have := m2 _ (lmax_mem hn)
    have := lmax_le m m1
    rw [show lmax ns = m by omega]
    exact .int _⟩
theorem pd_minL {ns : List Int} {src : Option Nat} (hc : X.calm = true) (hm : X.mg ("min" : Str) = none) (hn : 0 < ns.length) (h : PQ X a ρ src (ns.map .int) ρ1) (ok : SrcOk ρ1 src (ns.map .int)) (hg : Gl X "min" := by rfl) (he : starEach [a] X.env = (false, eval a X.env) :: starEach [] X.env := by rfl) : PD X (.Call (.Name "min" p) [a] [] pos) ρ (.int (lmin ns)) ρ1 :=
  PE_imp (pe_callB (cr_min hc) hg hm rfl (pa_cons h pa_nil he) (by decide) (by decide) he) fun σ H Q ⟨C, F, se, q⟩ => ⟨C, F, se, fun v F1 H1 x1 e1 r1 => by
    obtain ⟨a, vs, rfl, l, rr⟩ := r1.look e1 ok
    rw [rr.ints_inv] at l
    refine ⟨_, ns, rfl, l, hn, fun m m1 m2 => q _ F1 H1 x1 e1 ?_⟩
    have := m2 _ (lmin_mem hn)
    have := lmin_le m m1
    rw [show lmin ns = m by omega]
    exact .int _⟩
theorem pd_any {bs : List Bool} {src : Option Nat} (hc : X.calm = true) (hm : X.mg ("any" : Str) = none) (h : PQ X a ρ src (bs.map .bool) ρ1) (ok : SrcOk ρ1 src (bs.map .bool)) (hg : Gl X "any" := by rfl) (he : starEach [a] X.env = (false, eval a X.env) :: starEach [] X.env := by rfl) : PD X (.Call (.Name "any" p) [a] [] pos) ρ (.bool (bs.any fun b => b)) ρ1 :=
  PE_imp (pe_callB (cr_any hc) hg hm rfl (pa_cons h pa_nil he) (by decide) (by decide) he) fun σ H Q ⟨C, F, se, q⟩ => ⟨C, F, se, fun v F1 H1 x1 e1 r1 => by
    obtain ⟨a, vs, rfl, l, rr⟩ := r1.look e1 ok
    rw [rr.bls_inv] at l
    exact ⟨_, bs, rfl, l, q _ F1 H1 x1 e1 (.bl _)⟩⟩
theorem pd_all {bs : List Bool} {src : Option Nat} (hc : X.calm = true) (hm : X.mg ("all" : Str) = none) (h : PQ X a ρ src (bs.map .bool) ρ1) (ok : SrcOk ρ1 src (bs.map .bool)) (hg : Gl X "all" := by rfl) (he : starEach [a] X.env = (false, eval a X.env) :: starEach [] X.env := by rfl) : PD X (.Call (.Name "all" p) [a] [] pos) ρ (.bool (bs.all fun b => b)) ρ1 :=
  PE_imp (pe_callB (cr_all hc) hg hm rfl (pa_cons h pa_nil he) (by decide) (by decide) he) fun σ H Q ⟨C, F, se, q⟩ => ⟨C, F, se, fun v F1 H1 x1 e1 r1 => by
    obtain ⟨a, vs, rfl, l, rr⟩ := r1.look e1 ok
    rw [rr.bls_inv] at l
    exact ⟨_, bs, rfl, l, q _ F1 H1 x1 e1 (.bl _)⟩⟩
/-- list + list, wherever they stand -/
def rCatL (K : PySem.W.Frag) : R2 := fun x y H Q => ∃ l b xs zs, x = .ref l ∧ y = .ref b ∧ SqL K H l xs ∧ SqL K H b zs ∧ xs.length + zs.length ≤ sizeLine ∧ ∀ p, H p = none → Q (.ref p) (upd H p (.lst (xs ++ zs)))
theorem op_catL : OpR X (binaryOp .Add) (rCatL X.K) := by
  intro pins s σ H x y v u Q I rx ry h
  obtain ⟨l, b, xs, zs, rfl, rfl, hH, hB, hz, q⟩ := h
  cases rx
  cases ry
  obtain ⟨its, r, hl, _⟩ := I.list hH
  obtain ⟨its2, r2, hb, _⟩ := I.list hB
  obtain ⟨⟨cls, dd, data, sl⟩, ho, hc, n, hd⟩ := id hl.isList
  obtain ⟨⟨cls2, dd2, data2, sl2⟩, ho2, hc2, n2, hd2⟩ := id hb.isList
  simp only at hc hd hc2 hd2
  subst hc hd hc2 hd2
  have e : its.toArray ++ its2.toArray = (its ++ its2).toArray := by simp
  have l1 := r.length
  have l2 := r2.length
  refine concat_meets ⟨_, ho, rfl⟩ ⟨_, ho2, rfl⟩ noFill_list_add seq_list_add PySem.F.slot_list_add PySem.F.entry_list_add (PySem.F.args_list_add_2 _ _) (list_addW l b its.toArray its2.toArray n n2 dd dd2 sl sl2 (by rw [List.size_toArray, List.size_toArray]; omega)) ⟨ho, ho2, ?_⟩
  rw [e]
  exact ⟨.ref _, _, I.lnew (t' := s.toks) (r.append r2) (by rw [List.length_append]; omega), rfl, q _ I.fresh⟩
theorem pn_cat {sa sb : Option Nat} (ha : PQ X a ρ sa xs ρ1) (oa : SrcOk ρ2 sa xs) (hb : PQ X b ρ1 sb ys ρ2) (ob : SrcOk ρ2 sb ys) (hl : xs.length + ys.length ≤ 100000) : PN X (.BinOp a .Add b pos) ρ (.l (xs ++ ys)) ρ2 :=
  PE_imp (pe_op op_catL ha hb) fun σ H Q ⟨C, F, se, q⟩ => ⟨C, F, se, fun v F1 H1 x1 e1 r1 => ⟨C, F1, e1, fun w F2 H2 x2 e2 r2 => by
    obtain ⟨a, vs, rfl, l1, rr1⟩ := (r1.mono x2).look e2 oa
    obtain ⟨b, ws, rfl, l2, rr2⟩ := r2.look e2 ob
    refine ⟨a, b, vs, ws, rfl, rfl, l1, l2, by rw [rr1.length, rr2.length]; exact line_of hl, fun p hp => ?_⟩
    obtain ⟨h1, h2, h3, h4⟩ := e2.lay (o := .lst (vs ++ ws)) hp
    exact q p F2 _ (x1.trans x2) h1 h2 h3 h4 ⟨vs ++ ws, upd_same, rr1.append rr2⟩⟩⟩
/-- xs[lo:hi] -/
def cutD (xs : List PyData) (lo hi : Option Int) : List PyData := (xs.drop (HT.sIx xs.length 0 lo)).take (HT.sIx xs.length xs.length hi - HT.sIx xs.length 0 lo)
abbrev OD (X : Cx) (e : Option Expr) (ρ : En) (o : Option Int) (ρ' : En) : Prop := PO X e (fun σ H Q => ∃ C F, SE X.K C F H σ ρ ∧ ∀ F' H', Ex F F' → SE X.K C F' H' σ ρ' → Q o H')
theorem PO_imp {o : Option Expr} {t t' : TO} (h : PO X o t) (i : ∀ σ H Q, t' σ H Q → t σ H Q) : PO X o t' := ⟨fun pins s σ H Q I q => h.run pins s σ H Q I (i _ _ _ q)⟩
theorem od_none : OD X none ρ none ρ := PO_imp po_none fun σ H Q ⟨C, F, se, q⟩ => q F H (.refl _) se
theorem od_some (h : PD X e ρ (.int i) ρ1) : OD X (some e) ρ (some i) ρ1 := PO_imp (po_some h) fun σ H Q ⟨C, F, se, q⟩ => ⟨C, F, se, fun v F1 H1 x1 e1 r1 => ⟨i, rp_int r1, q F1 H1 x1 e1⟩⟩
theorem pn_slice {src : Option Nat} {lo hi : Option Expr} {ol oh : Option Int} {p2 : Pos} (h : PQ X e ρ src xs ρ1) (hl : OD X lo ρ1 ol ρ2) (hh : OD X hi ρ2 oh ρ3) (ok : SrcOk ρ3 src xs) : PN X (.Subscript e (.Slice lo hi none p2) pos) ρ (.l (cutD xs ol oh)) ρ3 :=
  PE_imp (pe_slice sl_list h hl hh) fun σ H Q ⟨C, F, se, q⟩ => ⟨C, F, se, fun v F1 H1 x1 e1 r1 => ⟨C, F1, e1, fun F2 H2 x2 e2 => ⟨C, F2, e2, fun F3 H3 x3 e3 => by
    obtain ⟨a, vs, rfl, l, rr⟩ := (r1.mono (x2.trans x3)).look e3 ok
    refine ⟨a, vs, rfl, l, fun p hp => ?_⟩
    obtain ⟨h1, h2, h3, h4⟩ := e3.lay (o := .lst (cutV vs ol oh)) hp
    refine q p F3 _ (x1.trans (x2.trans x3)) h1 h2 h3 h4 ⟨_, upd_same, ?_⟩
    unfold cutV cutD
    rw [rr.length]
    exact (rr.drop _).take _⟩⟩⟩
/-! ### truth of values -/
theorem td_truthL {src : Option Nat} (h : PQ X a ρ src xs ρ1) (ok : SrcOk ρ1 src xs) (he : ∀ whole, isTrue a X.env whole = (do let v ← whole; standAt a.pos; holding [v] (truthy v)) := by intro _; rfl) : TD X a ρ (!xs.isEmpty) ρ1 :=
  PT_imp (pt_truth h he) fun σ H Q ⟨C, F, se, q⟩ => ⟨C, F, se, fun v F1 H1 x1 e1 r1 => by
    obtain ⟨a, vs, rfl, l, rr⟩ := r1.look e1 ok
    refine ⟨_, .inl ⟨vs, l, rfl⟩, ?_⟩
    rw [show vs.isEmpty = xs.isEmpty by cases rr <;> rfl]
    exact q F1 H1 x1 e1⟩
theorem td_truthI (h : PD X a ρ (.int i) ρ1) (he : ∀ whole, isTrue a X.env whole = (do let v ← whole; standAt a.pos; holding [v] (truthy v)) := by intro _; rfl) : TD X a ρ (i != 0) ρ1 :=
  PT_imp (pt_truth h he) fun σ H Q ⟨C, F, se, q⟩ => ⟨C, F, se, fun v F1 H1 x1 e1 r1 => by
    rw [rp_int r1]
    exact ⟨_, rfl, q F1 H1 x1 e1⟩⟩
theorem td_truthS (hl : s.length ≤ sizeLine) (h : PD X a ρ (.str s) ρ1) (he : ∀ whole, isTrue a X.env whole = (do let v ← whole; standAt a.pos; holding [v] (truthy v)) := by intro _; rfl) : TD X a ρ ((s.length : Int) != 0) ρ1 :=
  PT_imp (pt_truth h he) fun σ H Q ⟨C, F, se, q⟩ => ⟨C, F, se, fun v F1 H1 x1 e1 r1 => by
    rw [rp_str r1]
    exact ⟨_, ⟨hl, rfl⟩, q F1 H1 x1 e1⟩⟩
theorem td_truthT (h : PD X a ρ (.tuple xs) ρ1) (he : ∀ whole, isTrue a X.env whole = (do let v ← whole; standAt a.pos; holding [v] (truthy v)) := by intro _; rfl) : TD X a ρ (!xs.isEmpty) ρ1 :=
  PT_imp (pt_truth h he) fun σ H Q ⟨C, F, se, q⟩ => ⟨C, F, se, fun v F1 H1 x1 e1 r1 => by
    cases r1 with
    | @tup a vs _ h1 h2 =>
      refine ⟨_, .inr (.inl ⟨vs, SqT.of (e1.fr.ext _ _ h1), rfl⟩), ?_⟩
      rw [show vs.isEmpty = xs.isEmpty by cases h2 <;> rfl]
      exact q F1 H1 x1 e1⟩

/-! ### isinstance -/
def tyD : PyData → String
  | .none => "NoneType"
  | .bool _ => "bool"
  | .int _ => "int"
  | .str _ => "str"
  | .list _ => "list"
  | .tuple _ => "tuple"
  | .dict _ => "dict"
def isDct : PyData → Bool
  | .dict _ => true
  | _ => false
theorem tyx_of {K : PySem.W.Frag} {F H : Hp} {v : V} {x : PyData} (hd : isDct x = false) (e : Ex F H) (r : Rp K F v x) : TyX K H v (.type (tyD x)) := by
  cases r with
  | non => exact .base .non
  | bl b => exact .base (.bl b)
  | int b => exact .base (.int b)
  | str b => exact .base (.str b)
  | lst h _ =>
    rcases h with h | ⟨o, its, n, hk, hc, _⟩
    · rcases h with h | ⟨o, h⟩
      · exact .base (.lst (e _ _ h))
      · exact .base (.frz (e _ _ h))
    · exact .kList hk hc
  | tup h _ => exact .base (.tup (e _ _ h))
  | dK h _ => cases hd
  | dT h _ _ => cases hd
theorem pe_cls {n : Str} {T : String} (hm : X.mg n = none) (hv : bootBuiltins n = some (.type T)) (hg : Gl X n := by rfl) (hn : n ≠ "__name__" := by decide) (hdb : (n == ("__debug__" : Str)) = false := by decide) : PE X (.Name n pos) (tC (.ty T)) := pe_bltn hg hm hv rfl hn hdb
theorem pd_isi {k : Bool} (hd : isDct x = false) (hk : kitB (tyD x) T = some k) (hm : X.mg ("isinstance" : Str) = none) (hc : PE X c (tC (.ty T))) (ha : PD X a ρ x ρ1) (hg : Gl X "isinstance" := by rfl) (he : starEach [a, c] X.env = (false, eval a X.env) :: starEach [c] X.env := by rfl) (he2 : starEach [c] X.env = (false, eval c X.env) :: starEach [] X.env := by rfl)
    (hpl : (backTo pos (starEach [c] X.env)).any (·.1) = false := by rfl) : PD X (.Call (.Name "isinstance" p) [a, c] [] pos) ρ (.bool k) ρ1 :=
  PE_imp (pe_callB call_isi hg hm rfl (pa_cons ha (pa_cons hc pa_nil he2) he) (by decide) (by decide) he hpl) fun σ H Q ⟨C, F, se, q⟩ => ⟨C, F, se, fun v F1 H1 x1 e1 r1 =>
    ⟨v, .ty T, .type (tyD x), .type T, k, rfl, .ty T, tyx_of hd e1.fr.ext r1, kit_ty hk, q _ F1 H1 x1 e1 (.bl _)⟩⟩
/-- isinstance(x, (T, U)) -/
theorem pd_isi2 {d : Expr} {U : String} {k1 k2 : Bool} {x1 : _} (hd : isDct x = false) (hk : kitB (tyD x) T = some k1) (hk2 : kitB (tyD x) U = some k2) (hm : X.mg ("isinstance" : Str) = none) (hc : PE X c (tC (.ty T))) (hc2 : PE X d (tC (.ty U))) (ha : PD X a ρ x ρ1) (hg : Gl X "isinstance" := by rfl)
    (he : starEach [a, .Tuple [c, d] x1 pos'] X.env = (false, eval a X.env) :: starEach [.Tuple [c, d] x1 pos'] X.env := by rfl) (he2 : starEach [.Tuple [c, d] x1 pos'] X.env = (false, eval (.Tuple [c, d] x1 pos') X.env) :: starEach [] X.env := by rfl)
    (hs : starEach [c, d] X.env = (false, eval c X.env) :: starEach [d] X.env := by rfl) (hs2 : starEach [d] X.env = (false, eval d X.env) :: starEach [] X.env := by rfl)
    (hpl : (backTo pos (starEach [.Tuple [c, d] x1 pos'] X.env)).any (·.1) = false := by rfl) : PD X (.Call (.Name "isinstance" p) [a, .Tuple [c, d] x1 pos'] [] pos) ρ (.bool (k1 || k2)) ρ1 := by
  refine PE_imp (pe_callB call_isiT hg hm rfl (pa_cons ha (pa_cons (pe_tup (pa_cons hc (pa_cons hc2 pa_nil hs2) hs)) pa_nil he2) he) (by decide) (by decide) he hpl) fun σ H Q ⟨C, F, se, q⟩ => ⟨C, F, se, fun v F1 H1 x1 e1 r1 => ⟨line_of (show 2 ≤ 100000 by decide), fun tp hp => ?_⟩⟩
  refine ⟨v, tp, [.ty T, .ty U], .type (tyD x), [.type T, .type U], k1 || k2, rfl, upd_same, .cons (.ty T) (.cons (.ty U) .nil), ?_, ?_, ?_⟩
  · exact tyx_of hd (e1.fr.ext.trans (.new hp)) r1
  · refine kitAny_cons (kit_ty hk) (fun z => ?_) (fun z => by rw [z]; rfl)
    subst z
    refine kitAny_cons (kit_ty hk2) (fun z => ?_) (fun z => by rw [z]; rfl)
    subst z
    exact kitAny_nil
  · exact q _ F1 _ x1 (e1.lay hp).1 (.bl _)
end
end G

/-! GHead: a law's own call. -/
namespace G
open PySem PySem.Spec PyProof.Rows L2
theorem fn_shut {P : Program} {w : World} {K : PySem.W.Frag} {mg : Str → Option Value} {base : Heap} {k : Nat} {f : Addr} {fd : FuncData} {ps : List Str} {sp : Sp} (F : FnOk P w K mg base (L2N.CX P w) k f fd ps sp) : FnOk P w K mg base CX0 k f fd ps (fun vs H Q _ => sp vs H Q E0) := by
  refine ⟨fun vs H Q E h => F.len vs H Q E0 h, fun A outer s H args us vs Q E hr he hb hv hs => codeAny_mono (F.run A outer s H args us vs Q E0 hr he hb hv hs) fun r s' hq => ?_⟩
  cases r with
  | error e =>
    obtain ⟨_, _, _, _, _, _, _, _, _, _, _, _, z⟩ := hq
    exact z.elim
  | ok fl => cases fl <;> exact hq
/-- what is asked of a law's def: true of every script -/
def LawS (ds : List PyData) (r : Res) : Prop := ∃ ns : List Int, ds = [.list (ns.map .int)] ∧ ns.length ≤ 63 ∧ r = .ret (.bool true)
theorem law_end {K : PySem.W.Frag} (H : Hp) (a : Addr) (ns : List Int) (hl : ns.length ≤ 63) (hS : SqL K H a (ns.map V.int)) : spD K LawS [.ref a] H (fun v _ => v = .bl true) E0 :=
  ⟨H, [.list (ns.map .int)], .ret (.bool true), .refl H, .cons (.lst hS (.ints ns)) .nil, ⟨ns, rfl, hl, rfl⟩, fun v F' H' g r => rp_bool r⟩
end G

/-! GTyped: the rules over typed data. -/
namespace G
open PySem PySem.Spec PyProof.Rows L2

/-! ### typed data -/
abbrev dL {α : Type} (f : α → PyData) (xs : List α) : PyData := .list (xs.map f)
abbrev dT2 {α β : Type} (f : α → PyData) (g : β → PyData) (p : α × β) : PyData := .tuple [f p.1, g p.2]
abbrev dT3 {α β γ : Type} (f : α → PyData) (g : β → PyData) (h : γ → PyData) (p : α × β × γ) : PyData := .tuple [f p.1, g p.2.1, h p.2.2]
abbrev dT4 {α β γ δ : Type} (f : α → PyData) (g : β → PyData) (h : γ → PyData) (j : δ → PyData) (p : α × β × γ × δ) : PyData := .tuple [f p.1, g p.2.1, h p.2.2.1, j p.2.2.2]
def dO {α : Type} (f : α → PyData) : Option α → PyData
  | none => .none
  | some a => f a
/-- xs[i] -/
def gI {α : Type} [Inhabited α] (xs : List α) (i : Int) : α := if i < 0 then xs[(i + xs.length).toNat]! else xs[i.toNat]!
theorem gI_nat {α : Type} [Inhabited α] {xs : List α} {n : Nat} : gI xs (n : Int) = xs[n]! := by
  unfold gI
  rw [if_neg (by omega), Int.toNat_natCast]
theorem gI_at {α : Type} [Inhabited α] {f : α → PyData} {xs : List α} {i : Int} (h : -(xs.length : Int) ≤ i ∧ i < xs.length) : atI (xs.map f) i = some (f (gI xs i)) := by
  have key : ∀ n : Nat, n < xs.length → (xs.map f)[n]? = some (f xs[n]!) := fun n hn => by
    rw [List.getElem?_map, List.getElem?_eq_getElem hn, getElem!_pos xs n hn]; rfl
  unfold atI ixN gI
  rw [List.length_map]
  by_cases q : 0 ≤ i
  · rw [if_pos q, if_pos h.2, if_neg (by omega)]
    exact key _ (by omega)
  · rw [if_neg q, if_pos h.1, if_pos (by omega)]
    exact key _ (by omega)
theorem gI_mem {α : Type} [Inhabited α] {xs : List α} {i : Int} (h : -(xs.length : Int) ≤ i ∧ i < xs.length) : gI xs i ∈ xs := by
  have key : ∀ n : Nat, n < xs.length → xs[n]! ∈ xs := fun n hn => by
    rw [getElem!_pos xs n hn]; exact List.getElem_mem hn
  unfold gI
  by_cases q : 0 ≤ i
  · rw [if_neg (by omega)]; exact key _ (by omega)
  · rw [if_pos (by omega)]; exact key _ (by omega)
section
variable {X : Cx} {W : WX} {e a b c tg iter elt : Expr} {es : List Expr} {p pos pos' : Pos} {ρ ρ' ρ1 ρ2 ρ3 ρA ρB : En} {x y z : PyData} {st : Stmt} {rest A B body : List Stmt} {D : DE} {k k' : Bool} {i j : Int} {w : Str} {α β γ S R : Type} {f : α → PyData} {ns ms : List α}
theorem pd_cast (h : x = y) (hp : PD X e ρ x ρ') : PD X e ρ y ρ' := h ▸ hp
theorem td_cast (h : k = k') (hp : TD X e ρ k ρ') : TD X e ρ k' ρ' := h ▸ hp
theorem pn_cast {ct ct' : Ct} (h : ct = ct') (hp : PN X e ρ ct ρ') : PN X e ρ ct' ρ' := h ▸ hp
theorem pd_env (h : ρ1 = ρ2) (hp : PD X e ρ x ρ1) : PD X e ρ x ρ2 := h ▸ hp
theorem pd_gix [Inhabited α] {src : Option Nat} (h : -(ns.length : Int) ≤ i ∧ i < ns.length) (ok : SrcOk ρ2 src (ns.map f)) (ha : PQ X a ρ src (ns.map f) ρ1) (hb : PD X b ρ1 (.int i) ρ2) (hs : PlainIx b := by intro _ _; rfl) : PD X (.Subscript a b pos) ρ (f (gI ns i)) ρ2 := pd_ixL (gI_at h) ok ha hb hs
theorem pd_ift (f : α → PyData) (u v : α) (hc : TD X c ρ k ρ1) (ha : k = true → PD X a ρ1 (f u) ρ2) (hb : k = false → PD X b ρ1 (f v) ρ2) : PD X (.IfExp c a b pos) ρ (f (if k = true then u else v)) ρ2 := by
  have h := pd_if (pos := pos) hc ha hb
  cases k <;> exact h
theorem pn_catM {sa sb : Option Nat} (ha : PQ X a ρ sa (ns.map f) ρ1) (oa : SrcOk ρ2 sa (ns.map f)) (hb : PQ X b ρ1 sb (ms.map f) ρ2) (ob : SrcOk ρ2 sb (ms.map f)) (hl : ns.length + ms.length ≤ 100000) : PN X (.BinOp a .Add b pos) ρ (.l ((ns ++ ms).map f)) ρ2 := by
  rw [List.map_append]
  exact pn_cat ha oa hb ob (by rw [List.length_map, List.length_map]; exact hl)
/-- xs[lo:hi] -/
def cutG (xs : List α) (lo hi : Option Int) : List α := (xs.drop (HT.sIx xs.length 0 lo)).take (HT.sIx xs.length xs.length hi - HT.sIx xs.length 0 lo)
theorem pn_sliceM {src : Option Nat} {lo hi : Option Expr} {ol oh : Option Int} {p2 : Pos} (h : PQ X e ρ src (ns.map f) ρ1) (hl : OD X lo ρ1 ol ρ2) (hh : OD X hi ρ2 oh ρ3) (ok : SrcOk ρ3 src (ns.map f)) : PN X (.Subscript e (.Slice lo hi none p2) pos) ρ (.l ((cutG ns ol oh).map f)) ρ3 := by
  have := pn_slice (pos := pos) (p2 := p2) h hl hh ok
  unfold cutD at this
  rw [List.length_map, ← List.map_drop, ← List.map_take] at this
  exact this
theorem cutG_from (xs : List α) (n : Nat) (h : n ≤ xs.length) : cutG xs (some (n : Int)) none = xs.drop n := by
  unfold cutG
  rw [HT.sIx_nat, HT.sIx_none, Nat.min_eq_left h, List.take_of_length_le (by rw [List.length_drop]; omega)]
theorem cutG_to (xs : List α) (n : Nat) (h : n ≤ xs.length) : cutG xs none (some (n : Int)) = xs.take n := by
  unfold cutG
  rw [HT.sIx_nat, HT.sIx_none, Nat.min_eq_left h, List.drop_zero, Nat.sub_zero]
theorem cutG_mid (xs : List α) (m n : Nat) (h : m ≤ xs.length) (h2 : n ≤ xs.length) : cutG xs (some (m : Int)) (some (n : Int)) = (xs.drop m).take (n - m) := by
  unfold cutG
  rw [HT.sIx_nat, HT.sIx_nat, Nat.min_eq_left h, Nat.min_eq_left h2]
theorem sd_appendM {o : Str} {p1 p2 p3 : Pos} {pa pb : Option Addr} {ys : List PyData} {v : α} (i : Nat) (h0 : ρ[i]? = some (.o pa (.l ys))) (he : PD X e ρ (f v) ρ1) (h1 : ρ1[i]? = some (.o pb (.l (ns.map f)))) (hl : ns.length < 100000) (h : D.nx (ρ1.set i (.o pb (.l ((ns ++ [v]).map f)))))
    (hN : X.N[i]? = some o := by rfl) (hv : Vis X.env.scope o := by first | exact Or.inl rfl | exact Or.inr (Or.inl rfl) | exact Or.inr (Or.inr rfl)) (hd : (o == ("__debug__" : Str)) = false := by decide) (hcd : (o == ("__classdict__" : Str)) = false := by decide)
    (hbase : attributeBase (.Name o p1) "append" X.env (eval (.Name o p1) X.env) = eval (.Name o p1) X.env := by rfl)
    (hfew : ((backTo p3 (starEach [e] X.env)).all (fun x => !x.1) && (backToKw p3 (keywordEach [] X.env)).all (fun x => x.1.isSome)
      && decide ([e].length + ([] : List Keyword).length + (if ([] : List Keyword).isEmpty then 0 else 1) < 30)) = true := by rfl)
    (hline : (p2.endLine == p3.line) = true := by rfl) (hs : starEach [e] X.env = (false, eval e X.env) :: starEach [] X.env := by rfl)
    (hsw : swapsWith (.Call (.Attribute (.Name o p1) "append" p2) [e] [] p3) none pos.line X.env = pure false := by rfl) :
    SD X W (.Expr (.Call (.Attribute (.Name o p1) "append" p2) [e] [] p3) pos) ρ D := by
  refine sd_append i h0 he h1 (by rw [List.length_map]; exact hl) ?_ hN hv hd hcd hbase hfew hline hs hsw
  rw [List.map_append] at h
  exact h

/-! ### if, joined -/
/-- in each branch the same shape of slots -/
theorem bd_ite (ρM : En) (hc : TD X c ρ k ρ1) (ha : k = true → BD X W A ρ1 { D with nx := fun r => Le ρM r }) (hb : k = false → BD X W B ρ1 { D with nx := fun r => Le ρM r }) (hr : BD X W rest ρM D) : BD X W (.If c A B pos :: rest) ρ D :=
  bd_cut (fun r => Le ρM r) (sd_if hc ha hb) fun r l => bd_le l hr

/-! ### for, as a fold -/
theorem take_succ_of {xs : List α} {i : Nat} {a : α} (h : xs[i]? = some a) : xs.take (i + 1) = xs.take i ++ [a] := by
  rw [List.take_add_one, h]; rfl
theorem sd_forF (xs : List α) (td : α → PyData) (sh : S → En) (step : S → α → S) (s0 : S) (Pv : Nat → S → Prop) {ok : En → Prop} (hp : PassesOwn (model X.prog X.w) X.A X.env X.xe) (hc : X.calm = true) (hi : ID X tg iter ρ (xs.map td) ok none ρ1) (h0 : Le (sh s0) ρ1) (p0 : Pv 0 s0) (hok : ∀ s, ok (sh s))
    (hb : ∀ i s a, xs[i]? = some a → s = (xs.take i).foldl step s0 → Pv i s → ∃ ρ2, GD X tg (td a) (sh s) ρ2 ∧ BD X W body ρ2 { D with nx := fun r => Le (sh (step s a)) r ∧ Pv (i + 1) (step s a), ct := fun r => Le (sh (step s a)) r ∧ Pv (i + 1) (step s a), bk := D.nx })
    (hd : ∀ s, s = xs.foldl step s0 → Pv xs.length s → D.nx (sh s)) (hf : ∀ x, foldedSetIterable iter X.env x = pure x := by intro _; rfl) : SD X W (.For tg iter body [] pos) ρ D := by
  refine sd_for (fun i r => ∃ s, s = (xs.take i).foldl step s0 ∧ r = sh s ∧ Pv i s) hp hc hi ⟨_, h0, s0, by simp, rfl, p0⟩ (fun i r ⟨s, _, h, _⟩ => h ▸ hok s) ?_ ?_ hf
  · rintro i d r hd2 ⟨s, hs, rfl, pv⟩
    rw [List.getElem?_map] at hd2
    cases q : xs[i]? with
    | none => rw [q] at hd2; cases hd2
    | some a =>
      rw [q] at hd2; cases hd2
      obtain ⟨ρ2, g, bb⟩ := hb i s a q hs pv
      have nxt : ∀ r, Le (sh (step s a)) r ∧ Pv (i + 1) (step s a) → Lee (fun r => ∃ s, s = (xs.take (i + 1)).foldl step s0 ∧ r = sh s ∧ Pv (i + 1) s) r := fun r ⟨l, p⟩ => ⟨_, l, step s a, by rw [take_succ_of q, List.foldl_append, ← hs]; rfl, rfl, p⟩
      exact ⟨ρ2, g, bd_post { nx := nxt, ct := nxt } bb⟩
  · rintro r ⟨s, hs, rfl, pv⟩
    rw [List.length_map] at hs pv
    rw [List.take_length] at hs
    exact hd s hs pv
/-- the wishes within a loop that may give back, or raise, or break ahead of its end -/
def deE {α S R : Type} (D : DE) (xs : List α) (s0 : S) (step : S → α → Except R S) (s : S) (a : α) (nxt : En → Prop) : DE := { nx := nxt, ct := nxt, bk := fun r => ∃ q, step s a = .error q ∧ (xs.foldlM step s0 = .error q → D.nx r), rt := fun v r => ∃ q, step s a = .error q ∧ (xs.foldlM step s0 = .error q → D.rt v r), ex := fun v f r => ∃ q, step s a = .error q ∧ (xs.foldlM step s0 = .error q → D.ex v f r), rn := fun v r => ∃ q, step s a = .error q ∧ (xs.foldlM step s0 = .error q → D.rn v r), rq := fun v u r => ∃ q, step s a = .error q ∧ (xs.foldlM step s0 = .error q → D.rq v u r), rz := fun v r => ∃ q, step s a = .error q ∧ (xs.foldlM step s0 = .error q → D.rz v r) }
theorem deE_le {α S R : Type} {D : DE} {xs : List α} {s0 : S} {step : S → α → Except R S} {s : S} {a : α} {nxt nxt' : En → Prop} (he : ∀ q, step s a = .error q → xs.foldlM step s0 = .error q) (hn : ∀ r, nxt r → nxt' r) : (deE D xs s0 step s a nxt).Le { D with nx := nxt', ct := nxt', bk := D.nx } :=
  { nx := hn, ct := hn, bk := fun r ⟨q', h1, h2⟩ => h2 (he q' h1), rt := fun v r ⟨q', h1, h2⟩ => h2 (he q' h1), ex := fun v f r ⟨q', h1, h2⟩ => h2 (he q' h1), rn := fun v r ⟨q', h1, h2⟩ => h2 (he q' h1), rq := fun v u r ⟨q', h1, h2⟩ => h2 (he q' h1), rz := fun v r ⟨q', h1, h2⟩ => h2 (he q' h1) }
/-- .. that may give back, or raise, or break ahead of its end -/
theorem sd_forE (xs : List α) (td : α → PyData) (sh : S → En) (step : S → α → Except R S) (s0 : S) (Pv : Nat → S → Prop) {ok : En → Prop} (hp : PassesOwn (model X.prog X.w) X.A X.env X.xe) (hc : X.calm = true) (hi : ID X tg iter ρ (xs.map td) ok none ρ1) (h0 : Le (sh s0) ρ1) (p0 : Pv 0 s0) (hok : ∀ s, ok (sh s))
    (hb : ∀ i s a, xs[i]? = some a → (xs.take i).foldlM step s0 = .ok s → Pv i s → ∃ ρ2, GD X tg (td a) (sh s) ρ2 ∧ BD X W body ρ2 (deE D xs s0 step s a fun r => ∃ s', step s a = .ok s' ∧ Le (sh s') r ∧ Pv (i + 1) s'))
    (hd : ∀ s, xs.foldlM step s0 = .ok s → Pv xs.length s → D.nx (sh s)) (hf : ∀ x, foldedSetIterable iter X.env x = pure x := by intro _; rfl) : SD X W (.For tg iter body [] pos) ρ D := by
  have errs : ∀ (i : Nat) (s : S) (a : α) (q : R), xs[i]? = some a → (xs.take i).foldlM step s0 = .ok s → step s a = .error q → xs.foldlM step s0 = .error q := fun i s a q h1 h2 h3 => by
    have e : xs = xs.take i ++ a :: xs.drop (i + 1) := by
      have hlt : i < xs.length := by
        by_cases z : i < xs.length
        · exact z
        · rw [List.getElem?_eq_none (by omega)] at h1; cases h1
      rw [List.getElem?_eq_getElem hlt] at h1
      cases h1
      rw [← List.drop_eq_getElem_cons hlt, List.take_append_drop]
    rw [e, List.foldlM_append, h2]
    show (step s a >>= fun s' => (xs.drop (i + 1)).foldlM step s') = _
    rw [h3]; rfl
  refine sd_for (fun i r => ∃ s, (xs.take i).foldlM step s0 = .ok s ∧ r = sh s ∧ Pv i s) hp hc hi ⟨_, h0, s0, by simp; rfl, rfl, p0⟩ (fun i r ⟨s, _, h, _⟩ => h ▸ hok s) ?_ ?_ hf
  · rintro i d r hd2 ⟨s, hs, rfl, pv⟩
    rw [List.getElem?_map] at hd2
    cases q : xs[i]? with
    | none => rw [q] at hd2; cases hd2
    | some a =>
      rw [q] at hd2; cases hd2
      obtain ⟨ρ2, g, bb⟩ := hb i s a q hs pv
      have nxt : ∀ r, (∃ s', step s a = .ok s' ∧ Le (sh s') r ∧ Pv (i + 1) s') → Lee (fun r => ∃ s, (xs.take (i + 1)).foldlM step s0 = .ok s ∧ r = sh s ∧ Pv (i + 1) s) r := fun r ⟨s', h, l, p⟩ => ⟨_, l, s', by
        rw [take_succ_of q, List.foldlM_append, hs]
        show (step s a >>= fun s' => pure s') = _
        rw [h]; rfl, rfl, p⟩
      exact ⟨ρ2, g, bd_post (deE_le (fun q' h1 => errs i s a q' q hs h1) nxt) bb⟩
  · rintro r ⟨s, hs, rfl, pv⟩
    rw [List.length_map] at hs pv
    rw [List.take_length] at hs
    exact hd s hs pv

theorem tsd_nil_of {Y : Cx} {scope : Scope} (h : IsBlk X scope Y) : PTs Y [] (tT X.K ρ true ρ) := by
  obtain ⟨s, H, C, cl, fp, rfl⟩ := h
  exact tsd_nil
/-! ### comprehensions -/
/-- X in the block: what is of use there -/
theorem lcM (xs : List α) (td : α → PyData) (fd : β → PyData) (keep : α → Bool) (val : α → β) {scope : Scope} {own : List (Str × Nat)} {ifs : List Expr} {src : Option Nat} {ok : En → Prop} (hb : BlkOk X.N X.env.scope scope own) (hi : ID X tg iter ρ (xs.map td) ok src ρ1) (hlen : xs.length < 100000) (hsrc : ∀ j, src = some j → j ∉ own.map (·.2)) (hok : ok (wipeE ρ1 (own.map (·.2))))
    (hT : ∀ a, a ∈ xs → ∃ ρt ρe, (∀ Y, IsBlk X scope Y → GV Y (own.map (·.2)) tg (td a) (wipeE ρ1 (own.map (·.2))) ρt) ∧ (∀ Y, IsBlk X scope Y → PTs Y ifs (tT X.K ρt (keep a) ρt)) ∧ (∀ Y, IsBlk X scope Y → keep a = true → PE Y elt (tP X.K ρt (fd (val a)) ρe)) ∧ Le (wipeE ρ1 (own.map (·.2))) ρt ∧ Le (wipeE ρ1 (own.map (·.2))) ρe): LcOk X elt tg iter ifs scope ρ (.l (((xs.filter keep).map val).map fd)) (restE ρ1 ρ1 (own.map (·.2))) := by
  have cho : ∀ p : { a // a ∈ xs }, ∃ q : En × En, (∀ Y, IsBlk X scope Y → GV Y (own.map (·.2)) tg (td p.1) (wipeE ρ1 (own.map (·.2))) q.1) ∧ (∀ Y, IsBlk X scope Y → PTs Y ifs (tT X.K q.1 (keep p.1) q.1)) ∧ (∀ Y, IsBlk X scope Y → keep p.1 = true → PE Y elt (tP X.K q.1 (fd (val p.1)) q.2)) ∧ Le (wipeE ρ1 (own.map (·.2))) q.1 ∧ Le (wipeE ρ1 (own.map (·.2))) q.2 := fun p => by
    obtain ⟨ρt, ρe, h⟩ := hT p.1 p.2
    exact ⟨(ρt, ρe), h⟩
  let T : Nat → Turn := fun i => if h : i < xs.length then
      let q := Classical.choose (cho ⟨xs[i], List.getElem_mem h⟩)
      ⟨q.1, q.1, keep xs[i], fd (val xs[i]), q.2⟩ else ⟨[], [], false, .none, []⟩
  have hT' : ∀ i d, (xs.map td)[i]? = some d → TurnOk X scope (own.map (·.2)) tg elt ifs d ρ1 ρ1 (T i) := fun i d hd => by
    have hlt : i < xs.length := by
      by_cases z : i < xs.length
      · exact z
      · rw [List.getElem?_eq_none (by rw [List.length_map]; omega)] at hd; cases hd
    rw [List.getElem?_map, List.getElem?_eq_getElem hlt] at hd
    cases hd
    have sp := Classical.choose_spec (cho ⟨xs[i], List.getElem_mem hlt⟩)
    have eT : T i = ⟨(Classical.choose (cho ⟨xs[i], List.getElem_mem hlt⟩)).1, (Classical.choose (cho ⟨xs[i], List.getElem_mem hlt⟩)).1, keep xs[i], fd (val xs[i]), (Classical.choose (cho ⟨xs[i], List.getElem_mem hlt⟩)).2⟩ := dif_pos hlt
    rw [eT]
    obtain ⟨s1, s2, s3, s4, s5⟩ := sp
    refine ⟨s1, s2, s3, ?_⟩
    dsimp only
    split
    · exact s5
    · exact s4
  have h := lc_ok (its := xs.map td) (fun _ => ρ1) T hb hi (wipeE_le _ _) hsrc (fun _ _ => hok) (by rw [List.length_map]; exact hlen) hT'
  have eo : ∀ n, n ≤ xs.length → outs T n = (((xs.take n).filter keep).map val).map fd := by
    intro n
    induction n with
    | zero => intro _; simp [outs]
    | succ n ih =>
      intro hn
      have hlt : n < xs.length := by omega
      have eT : T n = ⟨(Classical.choose (cho ⟨xs[n], List.getElem_mem hlt⟩)).1, (Classical.choose (cho ⟨xs[n], List.getElem_mem hlt⟩)).1, keep xs[n], fd (val xs[n]), (Classical.choose (cho ⟨xs[n], List.getElem_mem hlt⟩)).2⟩ := dif_pos hlt
      unfold outs
      rw [eT, ih (by omega), take_succ_of (List.getElem?_eq_getElem hlt), List.filter_append]
      dsimp only
      by_cases q : keep xs[n] = true
      · rw [if_pos q, List.filter_cons_of_pos q, List.filter_nil, List.map_append, List.map_append]; rfl
      · rw [if_neg q, List.filter_cons_of_neg q, List.filter_nil, List.append_nil]
  rw [List.length_map, eo _ (Nat.le_refl _), List.take_length] at h
  exact h
/-! ### typed readings of the rest -/
theorem pd_lenM {src : Option Nat} (hm : X.mg ("len" : Str) = none) (h : PQ X a ρ src (ns.map f) ρ1) (ok : SrcOk ρ1 src (ns.map f)) (hg : Gl X "len" := by rfl) (he : starEach [a] X.env = (false, eval a X.env) :: starEach [] X.env := by rfl) : PD X (.Call (.Name "len" p) [a] [] pos) ρ (.int (ns.length : Int)) ρ1 := by
  have h' := pd_len (pos := pos) (p := p) hm h ok hg he
  rw [List.length_map] at h'
  exact h'
theorem td_truthM {src : Option Nat} (h : PQ X a ρ src (ns.map f) ρ1) (ok : SrcOk ρ1 src (ns.map f)) (he : ∀ whole, isTrue a X.env whole = (do let v ← whole; standAt a.pos; holding [v] (truthy v)) := by intro _; rfl) : TD X a ρ (!ns.isEmpty) ρ1 := by
  have h' := td_truthL h ok he
  rw [List.isEmpty_map] at h'
  exact h'
theorem id_range0 {n : Nat} (hm : X.mg "range" = none) (h : PD X a ρ (.int (n : Int)) ρ') (h2 : n < 2 ^ 62) (hg : Gl X "range" := by rfl) (hs : starEach [a] X.env = [(false, eval a X.env)] := by rfl) : ID X tg (.Call (.Name "range" p) [a] [] pos) ρ ((List.range n).map fun i : Nat => PyData.int (i : Int)) (fun _ => True) none ρ' := by
  have h' := id_range1 (tg := tg) (pos := pos) (p := p) hm h (by omega) (by omega) hg hs
  unfold rgD at h'
  simp only [Int.toNat_natCast, Int.zero_add] at h'
  exact h'
theorem id_rangeI {n : Int} (hm : X.mg "range" = none) (h : PD X a ρ (.int n) ρ') (h2 : n.toNat < 2 ^ 62) (h3 : -(2 ^ 62) ≤ n) (hg : Gl X "range" := by rfl) (hs : starEach [a] X.env = [(false, eval a X.env)] := by rfl) : ID X tg (.Call (.Name "range" p) [a] [] pos) ρ ((List.range n.toNat).map fun i : Nat => PyData.int (i : Int)) (fun _ => True) none ρ' := by
  have h' := id_range1 (tg := tg) (pos := pos) (p := p) hm h (by omega) (by omega) hg hs
  unfold rgD at h'
  simp only [Int.zero_add] at h'
  exact h'
/-- the turns of a comprehension that changes slots -/
def scanV (step : S → α → S) (keep : S → α → Bool) (val : S → α → β) : S → List α → List β
  | _, [] => []
  | s, a :: r => if keep s a = true then val s a :: scanV step keep val (step s a) r else scanV step keep val (step s a) r
theorem scanV_snoc (step : S → α → S) (keep : S → α → Bool) (val : S → α → β) : ∀ (r : List α) (s : S) (a : α), scanV step keep val s (r ++ [a]) = scanV step keep val s r ++ if keep (r.foldl step s) a = true then [val (r.foldl step s) a] else []
  | [], s, a => by
    show scanV step keep val s [a] = _
    unfold scanV
    show (if keep s a = true then val s a :: scanV step keep val (step s a) [] else scanV step keep val (step s a) []) = [] ++ _
    unfold scanV
    rfl
  | b :: r, s, a => by
    rw [List.cons_append]
    unfold scanV
    rw [scanV_snoc step keep val r (step s b) a, List.foldl_cons]
    split <;> rfl
theorem lcS (xs : List α) (td : α → PyData) (fd : β → PyData) (sh : S → En) (step : S → α → S) (keep : S → α → Bool) (val : S → α → β) (s0 : S) {scope : Scope} {own : List (Str × Nat)} {ifs : List Expr} {src : Option Nat} {ok : En → Prop} (hb : BlkOk X.N X.env.scope scope own) (hi : ID X tg iter ρ (xs.map td) ok src ρ1) (h0 : Le (wipeE (sh s0) (own.map (·.2))) ρ1) (hlen : xs.length < 100000) (hsrc : ∀ j, src = some j → j ∉ own.map (·.2)) (hok : ∀ s, ok (wipeE (sh s) (own.map (·.2))))
    (hT : ∀ i a s, xs[i]? = some a → s = (xs.take i).foldl step s0 → ∃ ρt ρm ρe, (∀ Y, IsBlk X scope Y → GV Y (own.map (·.2)) tg (td a) (wipeE (sh s) (own.map (·.2))) ρt) ∧ (∀ Y, IsBlk X scope Y → PTs Y ifs (tT X.K ρt (keep s a) ρm)) ∧ (∀ Y, IsBlk X scope Y → keep s a = true → PE Y elt (tP X.K ρm (fd (val s a)) ρe)) ∧ (keep s a = true → Le (wipeE (sh (step s a)) (own.map (·.2))) ρe) ∧ (keep s a = false → Le (wipeE (sh (step s a)) (own.map (·.2))) ρm)): LcOk X elt tg iter ifs scope ρ (.l ((scanV step keep val s0 xs).map fd)) (restE ρ1 (sh (xs.foldl step s0)) (own.map (·.2))) := by
  let st : Nat → S := fun i => (xs.take i).foldl step s0
  have cho : ∀ p : { p : Nat × α // xs[p.1]? = some p.2 }, ∃ q : En × En × En, (∀ Y, IsBlk X scope Y → GV Y (own.map (·.2)) tg (td p.1.2) (wipeE (sh (st p.1.1)) (own.map (·.2))) q.1) ∧ (∀ Y, IsBlk X scope Y → PTs Y ifs (tT X.K q.1 (keep (st p.1.1) p.1.2) q.2.1)) ∧ (∀ Y, IsBlk X scope Y → keep (st p.1.1) p.1.2 = true → PE Y elt (tP X.K q.2.1 (fd (val (st p.1.1) p.1.2)) q.2.2)) ∧ (keep (st p.1.1) p.1.2 = true → Le (wipeE (sh (step (st p.1.1) p.1.2)) (own.map (·.2))) q.2.2) ∧ (keep (st p.1.1) p.1.2 = false → Le (wipeE (sh (step (st p.1.1) p.1.2)) (own.map (·.2))) q.2.1) := fun p => by
    obtain ⟨ρt, ρm, ρe, h⟩ := hT p.1.1 p.1.2 _ p.2 rfl
    exact ⟨(ρt, ρm, ρe), h⟩
  let T : Nat → Turn := fun i => if h : i < xs.length then
      let q := Classical.choose (cho ⟨(i, xs[i]), List.getElem?_eq_getElem h⟩)
      ⟨q.1, q.2.1, keep (st i) xs[i], fd (val (st i) xs[i]), q.2.2⟩ else ⟨[], [], false, .none, []⟩
  have eT : ∀ i (h : i < xs.length), T i = ⟨(Classical.choose (cho ⟨(i, xs[i]), List.getElem?_eq_getElem h⟩)).1, (Classical.choose (cho ⟨(i, xs[i]), List.getElem?_eq_getElem h⟩)).2.1, keep (st i) xs[i], fd (val (st i) xs[i]), (Classical.choose (cho ⟨(i, xs[i]), List.getElem?_eq_getElem h⟩)).2.2⟩ := fun i h => dif_pos h
  have sN : ∀ i (h : i < xs.length), st (i + 1) = step (st i) xs[i] := fun i h => by
    show (xs.take (i + 1)).foldl step s0 = _
    rw [take_succ_of (List.getElem?_eq_getElem h), List.foldl_append]; rfl
  have hT' : ∀ i d, (xs.map td)[i]? = some d → TurnOk X scope (own.map (·.2)) tg elt ifs d (sh (st i)) (sh (st (i + 1))) (T i) := fun i d hd => by
    have hlt : i < xs.length := by
      by_cases z : i < xs.length
      · exact z
      · rw [List.getElem?_eq_none (by rw [List.length_map]; omega)] at hd; cases hd
    rw [List.getElem?_map, List.getElem?_eq_getElem hlt] at hd
    cases hd
    have sp := Classical.choose_spec (cho ⟨(i, xs[i]), List.getElem?_eq_getElem hlt⟩)
    rw [eT i hlt]
    obtain ⟨s1, s2, s3, s4, s5⟩ := sp
    refine ⟨s1, s2, s3, ?_⟩
    dsimp only
    rw [sN i hlt]
    split
    · rename_i q; exact s4 q
    · rename_i q; exact s5 (by simpa using q)
  have h := lc_ok (its := xs.map td) (fun i => sh (st i)) T hb hi h0 hsrc (fun _ _ => hok _) (by rw [List.length_map]; exact hlen) hT'
  have eo : ∀ n, n ≤ xs.length → outs T n = (scanV step keep val s0 (xs.take n)).map fd := by
    intro n
    induction n with
    | zero => intro _; rfl
    | succ n ih =>
      intro hn
      have hlt : n < xs.length := by omega
      unfold outs
      rw [eT n hlt, ih (by omega), take_succ_of (List.getElem?_eq_getElem hlt), scanV_snoc, List.map_append]
      dsimp only
      by_cases q : keep (st n) xs[n] = true
      · rw [if_pos q, if_pos q]; rfl
      · rw [if_neg q, if_neg q]; simp
  rw [List.length_map, eo _ (Nat.le_refl _), List.take_length] at h
  have e2 : st xs.length = xs.foldl step s0 := by
    show (xs.take xs.length).foldl step s0 = _
    rw [List.take_length]
  rw [e2] at h
  exact h
theorem bd_env (h : ρ = ρ') (hb : BD X W body ρ' D) : BD X W body ρ D := h ▸ hb
/-! ### a name that owns its list: read -/
theorem srcO {j : Nat} {q : Option Addr} {xs : List PyData} (h : ρ[j]? = some (.o q (.l xs))) : SrcOk ρ (some j) xs := ⟨q, h⟩
theorem pd_ixO {o : Str} {p1 : Pos} {pa pb : Option Addr} {xs : List PyData} (j : Nat) (h0 : ρ[j]? = some (.o pa (.l xs))) (hb : PD X b ρ (.int i) ρ2) (h1 : ρ2[j]? = some (.o pb (.l xs))) (h : atI xs i = some x) (hs : PlainIx b := by intro _ _; rfl)
    (hN : X.N[j]? = some o := by rfl) (hv : Vis X.env.scope o := by first | exact Or.inl rfl | exact Or.inr (Or.inl rfl) | exact Or.inr (Or.inr rfl)) (hd : (o == ("__debug__" : Str)) = false := by decide) (hcd : (o == ("__classdict__" : Str)) = false := by decide) :
    PD X (.Subscript (.Name o p1) b pos) ρ x ρ2 := pd_ixL h (srcO h1) (pq_o j h0 hN hv hd hcd) hb hs
theorem pd_gixO [Inhabited α] {o : Str} {p1 : Pos} {pa pb : Option Addr} (j : Nat) (h0 : ρ[j]? = some (.o pa (.l (ns.map f)))) (hb : PD X b ρ (.int i) ρ2) (h1 : ρ2[j]? = some (.o pb (.l (ns.map f)))) (h : -(ns.length : Int) ≤ i ∧ i < ns.length) (hs : PlainIx b := by intro _ _; rfl)
    (hN : X.N[j]? = some o := by rfl) (hv : Vis X.env.scope o := by first | exact Or.inl rfl | exact Or.inr (Or.inl rfl) | exact Or.inr (Or.inr rfl)) (hd : (o == ("__debug__" : Str)) = false := by decide) (hcd : (o == ("__classdict__" : Str)) = false := by decide) :
    PD X (.Subscript (.Name o p1) b pos) ρ (f (gI ns i)) ρ2 := pd_ixL (gI_at h) (srcO h1) (pq_o j h0 hN hv hd hcd) hb hs
theorem pd_lenO {o : Str} {p1 : Pos} {pa : Option Addr} (j : Nat) (hm : X.mg ("len" : Str) = none) (h0 : ρ[j]? = some (.o pa (.l (ns.map f)))) (hg : Gl X "len" := by rfl) (he : starEach [.Name o p1] X.env = (false, eval (.Name o p1) X.env) :: starEach [] X.env := by rfl)
    (hN : X.N[j]? = some o := by rfl) (hv : Vis X.env.scope o := by first | exact Or.inl rfl | exact Or.inr (Or.inl rfl) | exact Or.inr (Or.inr rfl)) (hd : (o == ("__debug__" : Str)) = false := by decide) (hcd : (o == ("__classdict__" : Str)) = false := by decide) :
    PD X (.Call (.Name "len" p) [.Name o p1] [] pos) ρ (.int (ns.length : Int)) ρ := pd_lenM hm (pq_o j h0 hN hv hd hcd) (srcO h0) hg he
theorem td_truthO {o : Str} {p1 : Pos} {pa : Option Addr} (j : Nat) (h0 : ρ[j]? = some (.o pa (.l (ns.map f)))) (he : ∀ whole, isTrue (.Name o p1) X.env whole = (do let v ← whole; standAt (Expr.Name o p1).pos; holding [v] (truthy v)) := by intro _; rfl)
    (hN : X.N[j]? = some o := by rfl) (hv : Vis X.env.scope o := by first | exact Or.inl rfl | exact Or.inr (Or.inl rfl) | exact Or.inr (Or.inr rfl)) (hd : (o == ("__debug__" : Str)) = false := by decide) (hcd : (o == ("__classdict__" : Str)) = false := by decide) :
    TD X (.Name o p1) ρ (!ns.isEmpty) ρ := td_truthM (pq_o j h0 hN hv hd hcd) (srcO h0) he
/-! ### of lists that are data -/
theorem srcN {xs : List PyData} : SrcOk ρ none xs := trivial
theorem pd_gixD [Inhabited α] (h : -(ns.length : Int) ≤ i ∧ i < ns.length) (ha : PD X a ρ (.list (ns.map f)) ρ1) (hb : PD X b ρ1 (.int i) ρ2) (hs : PlainIx b := by intro _ _; rfl) : PD X (.Subscript a b pos) ρ (f (gI ns i)) ρ2 := pd_ixL (gI_at h) (srcN) (pq_d ha) hb hs
theorem pd_lenD (hm : X.mg ("len" : Str) = none) (h : PD X a ρ (.list (ns.map f)) ρ1) (hg : Gl X "len" := by rfl) (he : starEach [a] X.env = (false, eval a X.env) :: starEach [] X.env := by rfl) : PD X (.Call (.Name "len" p) [a] [] pos) ρ (.int (ns.length : Int)) ρ1 := pd_lenM hm (pq_d h) (srcN) hg he
theorem td_truthD (h : PD X a ρ (.list (ns.map f)) ρ1) (he : ∀ whole, isTrue a X.env whole = (do let v ← whole; standAt a.pos; holding [v] (truthy v)) := by intro _; rfl) : TD X a ρ (!ns.isEmpty) ρ1 := td_truthM (pq_d h) (srcN) he
theorem pd_sumD {ns : List Int} (hc : X.calm = true) (hm : X.mg ("sum" : Str) = none) (h : PD X a ρ (.list (ns.map .int)) ρ1) (hg : Gl X "sum" := by rfl) (he : starEach [a] X.env = (false, eval a X.env) :: starEach [] X.env := by rfl) : PD X (.Call (.Name "sum" p) [a] [] pos) ρ (.int ns.sum) ρ1 := pd_sum hc hm (pq_d h) (srcN) hg he
theorem pd_maxD {ns : List Int} (hc : X.calm = true) (hm : X.mg ("max" : Str) = none) (hn : 0 < ns.length) (h : PD X a ρ (.list (ns.map .int)) ρ1) (hg : Gl X "max" := by rfl) (he : starEach [a] X.env = (false, eval a X.env) :: starEach [] X.env := by rfl) : PD X (.Call (.Name "max" p) [a] [] pos) ρ (.int (lmax ns)) ρ1 := pd_maxL hc hm hn (pq_d h) (srcN) hg he
theorem pd_minD {ns : List Int} (hc : X.calm = true) (hm : X.mg ("min" : Str) = none) (hn : 0 < ns.length) (h : PD X a ρ (.list (ns.map .int)) ρ1) (hg : Gl X "min" := by rfl) (he : starEach [a] X.env = (false, eval a X.env) :: starEach [] X.env := by rfl) : PD X (.Call (.Name "min" p) [a] [] pos) ρ (.int (lmin ns)) ρ1 := pd_minL hc hm hn (pq_d h) (srcN) hg he
theorem pd_listD (hm : X.mg ("list" : Str) = none) (h : PD X a ρ (.list (ns.map f)) ρ1) (hg : Gl X "list" := by rfl) (he : starEach [a] X.env = (false, eval a X.env) :: starEach [] X.env := by rfl) : PN X (.Call (.Name "list" p) [a] [] pos) ρ (.l (ns.map f)) ρ1 := pn_list hm (pq_d h) (srcN) hg he
theorem pn_catD (ha : PD X a ρ (.list (ns.map f)) ρ1) (hb : PD X b ρ1 (.list (ms.map f)) ρ2) (hl : ns.length + ms.length ≤ 100000) : PN X (.BinOp a .Add b pos) ρ (.l ((ns ++ ms).map f)) ρ2 := pn_catM (pq_d ha) (srcN) (pq_d hb) (srcN) hl
theorem pn_sliceD {lo hi : Option Expr} {ol oh : Option Int} {p2 : Pos} (h : PD X e ρ (.list (ns.map f)) ρ1) (hl : OD X lo ρ1 ol ρ2) (hh : OD X hi ρ2 oh ρ3) : PN X (.Subscript e (.Slice lo hi none p2) pos) ρ (.l ((cutG ns ol oh).map f)) ρ3 := pn_sliceM (pq_d h) hl hh (srcN)
theorem id_listD (h : PD X e ρ (.list (ns.map f)) ρ') : ID X tg e ρ (ns.map f) (fun r => SrcOk r none (ns.map f)) none ρ' := id_list (pq_d h) (srcN)
/-- without an if -/
theorem lcN (xs : List α) (td : α → PyData) (fd : β → PyData) (val : α → β) {scope : Scope} {own : List (Str × Nat)} {src : Option Nat} {ok : En → Prop} (hb : BlkOk X.N X.env.scope scope own) (hi : ID X tg iter ρ (xs.map td) ok src ρ1) (hlen : xs.length < 100000) (hsrc : ∀ j, src = some j → j ∉ own.map (·.2)) (hok : ok (wipeE ρ1 (own.map (·.2))))
    (hT : ∀ a, a ∈ xs → ∃ ρt ρe, (∀ Y, IsBlk X scope Y → GV Y (own.map (·.2)) tg (td a) (wipeE ρ1 (own.map (·.2))) ρt) ∧ (∀ Y, IsBlk X scope Y → PE Y elt (tP X.K ρt (fd (val a)) ρe)) ∧ Le (wipeE ρ1 (own.map (·.2))) ρt ∧ Le (wipeE ρ1 (own.map (·.2))) ρe): LcOk X elt tg iter [] scope ρ (.l ((xs.map val).map fd)) (restE ρ1 ρ1 (own.map (·.2))) := by
  have h := lcM (ifs := []) xs td fd (fun _ => true) val hb hi hlen hsrc hok (fun a ha => by
    obtain ⟨ρt, ρe, h1, h2, h3, h4⟩ := hT a ha
    exact ⟨ρt, ρe, h1, fun Y hY => tsd_nil_of hY, fun Y hY _ => h2 Y hY, h3, h4⟩)
  rw [List.filter_eq_self.mpr (fun _ _ => rfl)] at h
  exact h
/-- xs[i] = v -/
def setI (xs : List α) (i : Int) (v : α) : List α := if i < 0 then xs.set (i + xs.length).toNat v else xs.set i.toNat v
theorem setI_len (xs : List α) (i : Int) (v : α) : (setI xs i v).length = xs.length := by
  unfold setI
  split <;> rw [List.length_set]
theorem ne_len {xs : List α} (h : (!xs.isEmpty) = true) : 0 < xs.length := by
  cases xs with
  | nil => cases h
  | cons x r => exact Nat.succ_pos _
theorem sd_setixM {o : Str} {p1 p2 : Pos} {pa pb : Option Addr} {ys : List PyData} {ix : Int} {v : α} (j : Nat) (he : PD X e ρ (f v) ρ1) (h0 : ρ1[j]? = some (.o pa (.l ys))) (hix : PD X a ρ1 (.int ix) ρ2) (h1 : ρ2[j]? = some (.o pb (.l (ns.map f)))) (hn : -(ns.length : Int) ≤ ix ∧ ix < ns.length) (h : D.nx (ρ2.set j (.o pb (.l ((setI ns ix v).map f)))))
    (hN : X.N[j]? = some o := by rfl) (hv : Vis X.env.scope o := by first | exact Or.inl rfl | exact Or.inr (Or.inl rfl) | exact Or.inr (Or.inr rfl)) (hd : (o == ("__debug__" : Str)) = false := by decide) (hcd : (o == ("__classdict__" : Str)) = false := by decide)
    (hg : ∀ v, assign (.Subscript (.Name o p1) a p2) X.env v = (do
      let ov ← holding [v] (eval (.Name o p1) X.env)
      let iv ← holding [v, ov] (eval a X.env)
      standAt p2
      holding [v, ov, iv] (setItem ov iv v)
      release [v, ov, iv] []) := by intro _; rfl)
    (hs : swapsWithSole [.Subscript (.Name o p1) a p2] e pos.line X.env = pure false := by rfl) (hw : swappedStores [.Subscript (.Name o p1) a p2] e X.env = pure none := by rfl)
    (hm : (assignEach [.Subscript (.Name o p1) a p2] X.env).map (·.2) = [assign (.Subscript (.Name o p1) a p2) X.env] := by rfl) :
    SD X W (.Assign [.Subscript (.Name o p1) a p2] e pos) ρ D := by
  unfold setI at h
  by_cases q : ix < 0
  · rw [if_pos q, List.map_set] at h
    refine sd_setix (n := (ix + ns.length).toNat) j he h0 hix h1 ?_ h hN hv hd hcd hg hs hw hm
    unfold ixN
    rw [List.length_map, if_neg (by omega), if_pos (by omega)]
  · rw [if_neg q, List.map_set] at h
    refine sd_setix (n := ix.toNat) j he h0 hix h1 ?_ h hN hv hd hcd hg hs hw hm
    unfold ixN
    rw [List.length_map, if_pos (by omega), if_pos (by omega)]
/-- a, b, .. = a list -/
theorem gd_lst {kk : Nat} {xs : List PyData} (hc : X.calm = true) (h : GsD X es xs ρ ρ') (hn : (assignEach es X.env).length = xs.length := by rfl) (hst : (assignEach es X.env).findIdx? (·.1) = none := by rfl) : GD X (.Tuple es kk pos) (.list xs) ρ ρ' := PG_imp (pg_lst hc h hn hst) fun v σ H Q ⟨C, F, se, r, q⟩ => by
  cases r with
  | lst h1 h2 => exact ⟨_, _, rfl, se.fr.ext.l h1, h2.length, C, F, se, h2, q⟩
theorem isN_dO (o : Option α) (h : ∀ a, isNone (f a) = false) : isNone (dO f o) = o.isNone := by
  cases o with
  | none => rfl
  | some a => exact h a
theorem notN_dO (o : Option α) (h : ∀ a, isNone (f a) = false) : (!isNone (dO f o)) = !o.isNone := by rw [isN_dO o h]
theorem id_rangeM {m n : Int} (hm : X.mg "range" = none) (ha : PD X a ρ (.int m) ρ1) (hb : PD X b ρ1 (.int n) ρ') (h1 : -(2 ^ 62) ≤ m) (h2 : m < 2 ^ 62) (h3 : -(2 ^ 62) ≤ n) (h4 : n < 2 ^ 62) (hg : Gl X "range" := by rfl)
    (hs : starEach [a, b] X.env = [(false, eval a X.env), (false, eval b X.env)] := by rfl) (hs2 : starEach [b] X.env = [(false, eval b X.env)] := by rfl) : ID X tg (.Call (.Name "range" p) [a, b] [] pos) ρ ((List.range (n - m).toNat).map fun i : Nat => PyData.int (m + (i : Int))) (fun _ => True) none ρ' :=
  id_range2 hm ha hb h1 h2 h3 h4 hg hs hs2
theorem pd_allD {bs : List Bool} (hc : X.calm = true) (hm : X.mg ("all" : Str) = none) (h : PD X a ρ (.list (bs.map .bool)) ρ1) (hg : Gl X "all" := by rfl) (he : starEach [a] X.env = (false, eval a X.env) :: starEach [] X.env := by rfl) : PD X (.Call (.Name "all" p) [a] [] pos) ρ (.bool (bs.all fun b => b)) ρ1 := pd_all hc hm (pq_d h) srcN hg he
theorem pd_anyD {bs : List Bool} (hc : X.calm = true) (hm : X.mg ("any" : Str) = none) (h : PD X a ρ (.list (bs.map .bool)) ρ1) (hg : Gl X "any" := by rfl) (he : starEach [a] X.env = (false, eval a X.env) :: starEach [] X.env := by rfl) : PD X (.Call (.Name "any" p) [a] [] pos) ρ (.bool (bs.any fun b => b)) ρ1 := pd_any hc hm (pq_d h) srcN hg he
end
end G

/-! GPool: what the laws drawP from. -/
namespace G
open PySem PySem.Spec PyProof.Rows L2
structure Pool where
  l : List Int
  a : Nat
  b : Int
  c : Int
  d : Int
def pl (p : Pool) : List PyData := [.list (p.l.map .int), .int (p.a : Int), .int p.b, .int p.c, .int p.d]
def drawEnd (p : Pool) (n : Int) : Int × Pool :=
  let m := (p.c * 48271 + (p.d + 1) * 69621 + 7919) % 2147483647
  (((m * m + (p.d + 1) * 40692) % 2147483399) % n, { p with d := p.d + 1 })
def drawP (p : Pool) (n : Int) : Int × Pool :=
  if p.b > 0 then (p.b % n, { p with b := p.b / n })
  else if decide (p.d % 8 = 0) && decide ((p.a : Int) < p.l.length) then
    let cell : Int := (gI p.l (p.a : Int)).natAbs
    if cell ≥ 10 ^ 18 then (cell % n, { p with a := p.a + 1, b := cell / n })
    else drawEnd { p with a := p.a + 1, c := cell } n
  else drawEnd p n
theorem drawEnd_bd (p : Pool) {n : Int} (h : 0 < n) : 0 ≤ (drawEnd p n).1 ∧ (drawEnd p n).1 < n := ⟨Int.emod_nonneg _ (by omega), Int.emod_lt_of_pos _ h⟩
theorem draw_bd (p : Pool) {n : Int} (h : 0 < n) : 0 ≤ (drawP p n).1 ∧ (drawP p n).1 < n := by
  unfold drawP
  split
  · exact ⟨Int.emod_nonneg _ (by omega), Int.emod_lt_of_pos _ h⟩
  · split
    · dsimp only
      split
      · exact ⟨Int.emod_nonneg _ (by omega), Int.emod_lt_of_pos _ h⟩
      · exact drawEnd_bd _ h
    · exact drawEnd_bd _ h
/-- a draw, named -/
theorem drawE (p : Pool) {n : Int} (h : 0 < n) : ∃ (v : Int) (q : Pool), (v, q) = drawP p n ∧ 0 ≤ v ∧ v < n := ⟨_, _, rfl, draw_bd p h⟩
/-- an int drawn -/
def SDraw (xs ds : List PyData) (y : PyData) (xs' : List PyData) : Prop := ∃ (p : Pool) (n : Int) (r : Int × Pool), xs = pl p ∧ ds = [.int n] ∧ (0 < n ∧ n < 1073741824) ∧ r = drawP p n ∧ y = .int r.1 ∧ xs' = pl r.2
def SPick (xs ds : List PyData) (y : PyData) (xs' : List PyData) : Prop := ∃ (p : Pool) (rows : List PyData) (r : Int × Pool), xs = pl p ∧ ds = [.list rows] ∧ (0 < rows.length ∧ rows.length < 100000) ∧ r = drawP p rows.length ∧ rows[r.1.toNat]? = some y ∧ xs' = pl r.2
end G
namespace G
open PySem PySem.Spec PyProof.Rows L2
/-- data without dicts, no deeper than that -/
inductive Nice : Nat → PyData → Prop
  | non {d : Nat} : Nice d .none
  | bl {d : Nat} (b : Bool) : Nice d (.bool b)
  | int {d : Nat} (i : Int) : Nice d (.int i)
  | str {d : Nat} (t : Str) : Nice d (.str t)
  | lst {d : Nat} {xs : List PyData} : xs.length < 100000 → (∀ x ∈ xs, Nice d x) → Nice (d + 1) (.list xs)
  | tup {d : Nat} {xs : List PyData} : xs.length < 100000 → (∀ x ∈ xs, Nice d x) → Nice (d + 1) (.tuple xs)
/-- _law_same of two alike -/
def SSame (d : Nat) (ds : List PyData) (r : Res) : Prop := ∃ x, ds = [x, x] ∧ Nice d x ∧ r = .ret (.bool true)
section
variable {X : Cx} {W : WX} {ρ : En} {st : Stmt} {rest : List Stmt} {D : DE}
/-- a statement that never falls through -/
theorem bd_guard_end (h : SD X W st ρ { D with nx := fun _ => False }) : BD X W (st :: rest) ρ D := bd_cut (fun _ => False) h fun _ z => z.elim
end
end G
namespace G
open PySem PySem.Spec PyProof.Rows L2
/-- a def over a pool that is told by what holds of its result -/
def spP (K : PySem.W.Frag) (S : List PyData → Prop) (R : List PyData → PyData → Prop) : Sp := fun vs H Q E => ∃ F l vs' us p ds, vs = .ref l :: vs' ∧ Ex F H ∧ F l = none ∧ H l = some (.lst us) ∧ RpA K F us (pl p) ∧ RpA K F vs' ds ∧ S ds ∧
  ∀ y q, R ds y → ∀ v F' H' us', GrW l F H F' H' → H' l = some (.lst us') → RpA K F' us' (pl q) → Rp K F' v y → Q v H'
section
variable {P : Program} {w : World} {K : PySem.W.Frag} {mg : Str → Option Value} {base : Heap} {x qual : Str} {f : Addr} {fd : FuncData} {N ps : List Str} {k : Nat}
theorem fn_PD {params : Arguments} {body : List Stmt} {scope : Scope} {dvs : List V} {kws : List (Str × V)} {S : List PyData → Prop} {R : List PyData → PyData → Prop} (Fn : FunD K x qual params body scope dvs kws f fd) (Sc : FnScope N ps scope) (hlen : ∀ ds, S ds → ds.length + 1 = ps.length) (hN : ps.length ≤ N.length)
    (hb : ∀ (cdv : Value) (A : Around) (outer : List Env) (s : Shared) (H : Hp) (E : XK), Room k (A.deeper (envOfC qual scope s.heap.objs.size f cdv)) → ∀ l p ds, S ds →
      BD (cxOf (L2N.CX P w) P w K mg base N qual scope f cdv A outer s H E) (WB E) body (pad N.length (.o (some l) (.l (pl p)) :: ds.map .d)) { rt := fun x ρ => R ds x ∧ ∃ q, ρ[0]? = some (.o (some l) (.l (pl q))), nx := fun ρ => R ds .none ∧ ∃ q, ρ[0]? = some (.o (some l) (.l (pl q))) }) :
    FnOk P w K mg base (L2N.CX P w) (k + 1) f fd ps (spP K S R) := by
  refine Fn.ok Sc (fun vs H Q E ⟨F, l, vs', us, p, ds, ev, _, _, _, _, rv, s, _⟩ => by rw [ev, List.length_cons, rv.length]; exact hlen _ s) fun cdv A outer s H vs Q E hr ⟨F, l, vs', us, p, ds, ev, ex, fl, hl, ru, rv, sr, rd⟩ => ?_
  subst ev
  refine ⟨_, hb cdv A outer s H E hr l p ds sr, ⟨F, H, [l]⟩, F, .startO ex fl hl ru rv (by rw [rv.length, hlen _ sr]; exact hN), ?_⟩
  have look : ∀ {C : Cn} {F' H' : Hp} {σ' : L2.St} {ρ' : En} {xs' : List PyData}, SE K C F' H' σ' ρ' → ρ'[0]? = some (.o (some l) (.l xs')) → ∃ us', H' l = some (.lst us') ∧ RpA K F' us' xs' := fun {C F' H' σ' ρ' xs'} s h => by
    obtain ⟨l', _, b, ⟨us', c, d⟩, _⟩ := s.getO h
    rcases b with b | b
    · cases b
    · cases b
      exact ⟨us', c, d⟩
  refine ⟨fun ρ' F' H' σ' ⟨q1, q, q2⟩ s => ?_, fun x ρ' v F' H' σ' ⟨q1, q, q2⟩ s rp => ?_, fun _ _ _ _ _ _ _ z => z.elim, fun _ _ _ _ z => z.elim, fun _ _ _ _ z => z.elim, fun _ _ _ _ _ _ z => z.elim, fun _ _ _ _ _ _ _ _ _ z => z.elim, fun _ _ _ _ _ _ z => z.elim⟩
  · obtain ⟨us', c, d⟩ := look s q2
    exact rd _ q q1 _ F' H' us' (.ofFr s.fr) c d .non
  · obtain ⟨us', c, d⟩ := look s q2
    exact rd x q q1 v F' H' us' (.ofFr s.fr) c d rp
end
section
variable {X : Cx} {W : WX} {e a b c : Expr} {es : List Expr} {p pos pos' p9 : Pos} {ρ ρ' ρ1 ρ2 ρ3 : En} {y z : PyData} {xs ys xs' ds : List PyData} {i j k : Nat} {x w : Str} {dvs : List V} {dds : List PyData} {D : DE}
def tPP (K : PySem.W.Frag) (ρ : En) (R : PyData → En → Prop) : TE := fun σ H Q => ∃ C F, SE K C F H σ ρ ∧ ∀ v F' H' x ρ', R x ρ' → Ex F F' → SE K C F' H' σ ρ' → Rp K F' v x → Q v H'
/-- some data comes, of which R holds -/
abbrev PP (X : Cx) (e : Expr) (ρ : En) (R : PyData → En → Prop) : Prop := PE X e (tPP X.K ρ R)
theorem pp_call {S : List PyData → Prop} {R : List PyData → PyData → Prop} {o : Str} {p0 : Pos} {pa pb : Option Addr} {q : Pool} (i : Nat) (cl : Cal X.prog X.w X.K X.mg X.base j x (spP X.K S R) dvs) (hr : Room k X.A) (hd : Dfs dvs dds) (h0 : ρ[i]? = some (.o pa (.l ys))) (ha : AD X es ρ ds ρ1) (h1 : ρ1[i]? = some (.o pb (.l (pl q)))) (hS : S (ds ++ dds)) (hk : j ≤ k := by decide) (hg : Gl X x := by rfl)
    (hN : X.N[i]? = some o := by rfl) (hv : Vis X.env.scope o := by first | exact Or.inl rfl | exact Or.inr (Or.inl rfl) | exact Or.inr (Or.inr rfl)) (hdo : (o == ("__debug__" : Str)) = false := by decide) (hcd : (o == ("__classdict__" : Str)) = false := by decide)
    (hdb : (x == ("__debug__" : Str)) = false := by decide) (he : starEach (.Name o p0 :: es) X.env = (false, eval (.Name o p0) X.env) :: starEach es X.env := by rfl) (hpl : (backTo pos (starEach es X.env)).any (·.1) = false := by rfl) :
    PP X (.Call (.Name x p) (.Name o p0 :: es) [] pos) ρ (fun y r => R (ds ++ dds) y ∧ ∃ q, r = ρ1.set i (.o pb (.l (pl q)))) := by
  obtain ⟨f, fd, ps, dd, fn, hm, kp, bi, vv⟩ := cl.ex
  refine PE_imp (pe_callSD fn (hr.mono hk) hg hm kp bi vv (fun σ => passE0 σ) (pa_cons (pe_var hN hv hdo hcd) ha he) hdb he hpl) fun σ H Q ⟨C, F, se, qq⟩ => ?_
  obtain ⟨l, a1, _, _, a4⟩ := se.getO h0
  refine ⟨.ref l, a1, C, F, se, fun vs F1 H1 x1 e1 r1 => ?_⟩
  obtain ⟨l', b1, b2, ⟨us, b3, b5⟩, b4⟩ := e1.getO h1
  rw [a1] at b1
  cases b1
  refine ⟨F1, l, vs ++ dvs, us, q, ds ++ dds, rfl, e1.fr.ext, (e1.own i l b4).1, b3, b5, r1.append hd.rp, hS, fun y q2 hR v F2 H2 us' g h2 ru rv => ?_⟩
  exact qq v F2 H2 y _ ⟨hR, q2, rfl⟩ (x1.trans g.f) (e1.wrg g h1 a1 ⟨us', h2, ru⟩) rv
theorem sd_setP {R : PyData → En → Prop} (i : Nat) (he : PP X e ρ R) (h : ∀ y r, R y r → D.nx (r.set i (.d y))) (hN : X.N.Nodup) (hi : X.N[i]? = some w := by rfl) (hx : Loc X.env.scope w := by first | exact Or.inl rfl | exact Or.inr rfl)
    (hf : X.fn w = true ∨ X.env.scope.names.lookup w = some .local := by first | exact .inl rfl | exact .inr rfl) (hs : swapsWith e (some (.Name w pos')) pos.line X.env = pure false := by rfl) : SD X W (.Assign [.Name w pos'] e pos) ρ D :=
  PS_imp (ps_set hN hi hx he hs hf) fun E σ H ⟨C, F, se, cv⟩ => ⟨C, F, se, fun v F1 H1 x r hR _ e1 r1 => cv.nx _ F1 H1 _ (h x r hR) (e1.setD r1)⟩
theorem sd_unpackP {R : PyData → En → Prop} (he : PP X e ρ R) (h : ∀ y r, R y r → ∃ ρ2, GD X a y r ρ2 ∧ D.nx ρ2) (hs : swapsWithSole [a] e pos.line X.env = pure false := by rfl) (hw : swappedStores [a] e X.env = pure none := by rfl)
    (h1 : (assignEach [a] X.env).map (·.2) = [assign a X.env] := by rfl) : SD X W (.Assign [a] e pos) ρ D :=
  PS_imp (ps_asg he (PG_ex (t := fun (t : { t : PyData × En × En // R t.1 t.2.1 ∧ GD X a t.1 t.2.1 t.2.2 ∧ D.nx t.2.2 }) => tG X.K t.1.1 t.1.2.1 t.1.2.2) fun t => t.2.2.1) hs hw h1) fun E σ H ⟨C, F, se, cv⟩ =>
    ⟨C, F, se, fun v F1 H1 x r hR _ e1 r1 => by
      obtain ⟨ρ2, g, n⟩ := h x r hR
      exact ⟨⟨(x, r, ρ2), hR, g, n⟩, C, F1, e1, r1, fun σ2 F2 H2 _ e2 => cv.nx ρ2 F2 H2 σ2 n e2⟩⟩
theorem sd_exprP {R : PyData → En → Prop} (he : PP X e ρ R) (h : ∀ y r, R y r → D.nx r) (hs : swapsWith e none pos.line X.env = pure false := by rfl) : SD X W (.Expr e pos) ρ D :=
  PS_imp (ps_expr he hs) fun E σ H ⟨C, F, se, cv⟩ => ⟨C, F, se, fun v F1 H1 x r hR _ e1 r1 => cv.nx _ F1 H1 _ (h x r hR) e1⟩
end
end G

/-! GExc: exceptions in words of data. -/
namespace G
open PySem PySem.Spec PyProof.Rows L2

section
variable {X : Cx} {W : WX} {e a b c o : Expr} {es : List Expr} {p pos pos' np : Pos} {ρ ρ' ρ1 ρ2 ρ3 : En} {x y z : PyData} {xs ys : List PyData} {st : Stmt} {rest A B body suite : List Stmt} {D : DE} {cls : Value} {fs : List (Str × PyData)} {w n : Str} {k : Bool} {C : Addr}
/-! ### an expression that raises, and what stands around it -/
theorem sd_exprX (he : PX X W e ρ cls fs ρ1) (h : D.ex cls fs ρ1) (hs : swapsWith e none pos.line X.env = pure false := by rfl) : SD X W (.Expr e pos) ρ D := PS_imp (ps_expr he hs) fun E σ H ⟨C, F, se, cv⟩ => ⟨C, F, se, fun d F' H' _ e' r => cv.ex cls fs ρ1 d F' H' σ h e' r⟩
theorem sd_setX (i : Nat) (he : PX X W e ρ cls fs ρ1) (h : D.ex cls fs ρ1) (hN : X.N.Nodup) (hi : X.N[i]? = some w := by rfl) (hx : Loc X.env.scope w := by first | exact Or.inl rfl | exact Or.inr rfl)
    (hf : X.fn w = true ∨ X.env.scope.names.lookup w = some .local := by first | exact .inl rfl | exact .inr rfl) (hs : swapsWith e (some (.Name w pos')) pos.line X.env = pure false := by rfl) : SD X W (.Assign [.Name w pos'] e pos) ρ D :=
  PS_imp (ps_set hN hi hx he hs hf) fun E σ H ⟨C, F, se, cv⟩ => ⟨C, F, se, fun d F' H' _ e' r => cv.ex cls fs ρ1 d F' H' σ h e' r⟩
theorem sd_retX (he : PX X W e ρ cls fs ρ1) (h : D.ex cls fs ρ1) : SD X W (.Return (some e) pos) ρ D := PS_imp (ps_ret he) fun E σ H ⟨C, F, se, cv⟩ => ⟨C, F, se, fun d F' H' _ e' r => cv.ex cls fs ρ1 d F' H' σ h e' r⟩
/-- a test that raises -/
def tXT (K : PySem.W.Frag) (W : WX) (ρ : En) (cls : Value) (fs : List (Str × PyData)) (ρ' : En) : TT := fun σ H _ => ∃ C F, SE K C F H σ ρ ∧ ∀ d F' H', Ex F F' → SE K C F' H' σ ρ' → ExRep K F' H' d fs → W cls d σ H'
abbrev TX (X : Cx) (W : WX) (e : Expr) (ρ : En) (cls : Value) (fs : List (Str × PyData)) (ρ' : En) : Prop := PT X e (tXT X.K W ρ cls fs ρ')
theorem tx_val (h : PX X W e ρ cls fs ρ1) (he : ∀ whole, isTrue e X.env whole = (do let v ← whole; standAt e.pos; holding [v] (truthy v)) := by intro _; rfl) : TX X W e ρ cls fs ρ1 := PT_imp (pt_val h he) fun σ H Q q => q
theorem tx_not (h : TX X W e ρ cls fs ρ1) : TX X W (.UnaryOp .Not e pos) ρ cls fs ρ1 := PT_imp (pt_not h) fun σ H Q q => q
theorem px_cmpL {op : CmpOp} {r : R2} (ho : OpR X (compareOp op) r) (ha : PX X W a ρ cls fs ρ1) (hm : behindInMarks op b = false) : PX X W (.Compare a [op] [b] pos) ρ cls fs ρ1 :=
  PE_imp (pe_cmpR ho ha (⟨fun _ _ _ _ _ _ h => h.elim⟩ : PE X b (fun _ _ _ => False)) hm) fun σ H Q q => q
theorem tx_cmpL {op : CmpOp} {r : R2} (ho : OpR X (compareOp op) r) (ha : PX X W a ρ cls fs ρ1) (hm : behindInMarks op b = false) : TX X W (.Compare a [op] [b] pos) ρ cls fs ρ1 :=
  PT_imp (pt_cmpR ho ha (⟨fun _ _ _ _ _ _ h => h.elim⟩ : PE X b (fun _ _ _ => False)) hm) fun σ H Q q => q
theorem px_opL {op : Operator} {r : R2} (ho : OpR X (binaryOp op) r) (ha : PX X W a ρ cls fs ρ1) : PX X W (.BinOp a op b pos) ρ cls fs ρ1 :=
  PE_imp (pe_op ho ha (⟨fun _ _ _ _ _ _ h => h.elim⟩ : PE X b (fun _ _ _ => False))) fun σ H Q q => q
theorem px_opR {op : Operator} {r : R2} (ho : OpR X (binaryOp op) r) (ha : PD X a ρ x ρ1) (hb : PX X W b ρ1 cls fs ρ2) : PX X W (.BinOp a op b pos) ρ cls fs ρ2 :=
  PE_imp (pe_op ho ha hb) fun σ H Q ⟨C, F, se, q⟩ => ⟨C, F, se, fun v F1 H1 x1 e1 r1 => ⟨C, F1, e1, fun d F2 H2 x2 e2 r2 => q d F2 H2 (x1.trans x2) e2 r2⟩⟩
theorem px_neg (ha : PX X W a ρ cls fs ρ1) : PX X W (.UnaryOp .USub a pos) ρ cls fs ρ1 := PE_imp (pe_un un_neg ha) fun σ H Q q => q
theorem sd_ifX (hc : TX X W c ρ cls fs ρ1) (h : D.ex cls fs ρ1) : SD X W (.If c A B pos) ρ D := by
  have nv : ∀ sts, PSs X sts (fun _ _ _ => False) := fun sts => ⟨fun _ _ _ _ _ _ h => h.elim⟩
  exact PS_imp (ps_if hc (nv A) (nv B)) fun E σ H ⟨C, F, se, cv⟩ => ⟨C, F, se, fun d F' H' _ e' r => cv.ex cls fs ρ1 d F' H' σ h e' r⟩
/-- arguments, one of which raises -/
def tXA (K : PySem.W.Frag) (W : WX) (ρ : En) (cls : Value) (fs : List (Str × PyData)) (ρ' : En) : TA := fun σ H _ => ∃ C F, SE K C F H σ ρ ∧ ∀ d F' H', Ex F F' → SE K C F' H' σ ρ' → ExRep K F' H' d fs → W cls d σ H'
abbrev AX (X : Cx) (W : WX) (es : List Expr) (ρ : En) (cls : Value) (fs : List (Str × PyData)) (ρ' : En) : Prop := PA X es (tXA X.K W ρ cls fs ρ')
theorem PA_any {t : TA} (es : List Expr) : PA X es (fun _ _ _ => False) := ⟨fun _ _ _ _ _ _ _ h => h.elim⟩
theorem ax_head (h : PX X W e ρ cls fs ρ1) (hs : starEach (e :: es) X.env = (false, eval e X.env) :: starEach es X.env := by rfl) : AX X W (e :: es) ρ cls fs ρ1 := PA_imp (pa_cons h (PA_any (t := tNil) es) hs) fun σ H Q q => q
theorem ax_tail (h : PD X e ρ x ρ1) (hr : AX X W es ρ1 cls fs ρ2) (hs : starEach (e :: es) X.env = (false, eval e X.env) :: starEach es X.env := by rfl) : AX X W (e :: es) ρ cls fs ρ2 := PA_imp (pa_cons h hr hs) fun σ H Q ⟨C, F, se, q⟩ =>
  ⟨C, F, se, fun v F1 H1 x1 e1 r1 => ⟨C, F1, e1, fun d F2 H2 x2 e2 r2 => q d F2 H2 (x1.trans x2) e2 r2⟩⟩
theorem px_callA {j k : Nat} {sp : Sp} {dvs : List V} {f : Str} (cl : Cal X.prog X.w X.K X.mg X.base j f sp dvs) (hr : Room k X.A) (ha : AX X W (e :: es) ρ cls fs ρ1) (hk : j ≤ k := by decide) (hg : Gl X f := by rfl)
    (hdb : (f == ("__debug__" : Str)) = false := by decide) (he : starEach (e :: es) X.env = (false, eval e X.env) :: starEach es X.env := by rfl) (hpl : (backTo pos (starEach es X.env)).any (·.1) = false := by rfl) : PX X W (.Call (.Name f p) (e :: es) [] pos) ρ cls fs ρ1 := by
  obtain ⟨f, fd, ps, dd, fn, hm, kp, bi, vv⟩ := cl.ex
  exact PE_imp (pe_callSD fn (hr.mono hk) hg hm kp bi vv (fun σ => passE0 σ) ha hdb he hpl) fun σ H Q q => q

/-! ### raise -/
/-- an exception class of the text -/
structure XC (K : PySem.W.Frag) (mg : Str → Option Value) (x : Str) : Prop where
  ex : PySem.W.excIn K (He.ga K x) He.veBase "ValueError.__new__" = true
  kp : PySem.W.keepIn K (.ref (He.ga K x)) = true
  sb : PySem.W.subIn K (.ref (He.ga K x)) (.type "BaseException") = some true
  ty : PySem.W.typeIn K (.ref (He.ga K x)) = some (.type "type")
  mg : mg x = some (.ref (He.ga K x))
/-- X(e), its context None -/
theorem mk_own1 {bmB : List Value} {B newId initId : String} {ta : TE} (Fb : ExcBaseFacts B newId initId bmB) (qC : PySem.W.excIn X.K C bmB newId = true) (gC : X.mg w = some (.ref C)) (kC : PySem.W.keepIn X.K (.ref C) = true) (rC : Raises X (.ref C)) (hg : Gl X w)
    (he : PE X e ta) (hs : starEach [e] X.env = (false, eval e X.env) :: starEach [] X.env := by rfl) (hdb : (w == ("__debug__" : Str)) = false := by decide) :
    L2N.PMk X (.Call (.Name w p) [e] [] pos) (fun σ H Q => ta σ H fun _ H1 => Q (.ref C) none H1) := fun pins s σ H Q I h => by
  refine wpAny_Call_Name_kw (ld_glob I hg gC ?_ hdb)
  have one : wpAny (model X.prog X.w) X.A (spliced ((false, eval e X.env) :: backTo pos (starEach [] X.env))) (fun us s1 => ∃ (v : V) (u : Value) (H1 : Hp), us = [u] ∧ Inv X pins σ H1 s1 ∧ RelV v u ∧ Q (.ref C) none H1) X.xe s := by
    exact Calls.spliced_cons (thn (he.run pins s σ H _ I h) fun u s1 ⟨v, H1, I1, r1, q1⟩ => Calls.spliced_nil ⟨v, u, H1, rfl, I1, r1, q1⟩)
  refine PySem.W.callWith_K (h₀ := X.base) I.ok.mod.kin kC ?_ hs (by rfl)
  rw [hs]
  refine thn one fun us s1 ⟨v, u, H1, eu, I1, r1, q1⟩ => ?_
  subst eu
  refine ⟨I1.kIn, ?_⟩
  show wpAny _ _ (call (.ref C) [u]) _ _ _
  obtain ⟨bm, N0, nm, qn, bs, hdct, sn, sb, ab, col, dd, k0, k1, k2, k3, k5, mN, hC, hN0, hni, T⟩ := exc_obj I1.kIn qC
  exact wpAny_call_exc_subT Fb T hC hN0 hni (fun h' a hm => L2N.mk_of I1 hm rC q1 (I1.hok.gone hm.new)) (by show 1 ≤ sizeLine; rw [sizeLine_eq]; omega)
theorem sd_raise1 (hc : X.calm = true) (tk : L2N.Takes X W) (xc : XC X.K X.mg w) (he : PD X e ρ x ρ1) (h : D.ex (.ref (He.ga X.K w)) [] ρ1) (hg : Gl X w := by rfl) (hs : starEach [e] X.env = (false, eval e X.env) :: starEach [] X.env := by rfl) (hdb : (w == ("__debug__" : Str)) = false := by decide) :
    SD X W (.Raise (some (.Call (.Name w p) [e] [] pos')) none pos) ρ D :=
  PS_imp (L2N.ps_raise hc tk (mk_own1 PySem.F.excBase_ValueError xc.ex xc.mg xc.kp (raises_own xc.sb xc.ty) hg he hs hdb)) fun E σ H ⟨C, F, se, cv⟩ => ⟨C, F, se, fun v F1 H1 _ e1 r1 => cv.ex _ [] ρ1 none F1 H1 σ h e1 rfl⟩
/-- str(i) -/
theorem pd_strI {i : Int} (hz : i.natAbs.log2 < 1920) (hm : X.mg ("str" : Str) = none) (ha : PD X a ρ (.int i) ρ1) (hg : Gl X "str" := by rfl) (he : starEach [a] X.env = (false, eval a X.env) :: starEach [] X.env := by rfl) : PD X (.Call (.Name "str" p) [a] [] pos) ρ (.str (toString i : Str)) ρ1 :=
  pd_ty call_str_int (fun F H vs Q e r q => by
    obtain ⟨v, rfl, h⟩ := rpa_one r
    rw [rp_int h]
    exact ⟨i, rfl, hz, q _ F H (.refl e) (.str _)⟩) (ad_one ha he) hm rfl hg (by decide) (by decide) he

/-! ### try: body, except x as n: suite -/
theorem SE.unset {K : PySem.W.Frag} {C : Cn} {F H : Hp} {σ : L2.St} {ρ : En} (e : SE K C F H σ ρ) (i : Nat) : SE K C F H (σ.set i none) (ρ.set i .un) := by
  have h := e.setU (i := i) (v := V.non)
  refine h.sub (by rw [List.length_set, List.length_set]) fun j s hj hn => ?_
  by_cases q : j = i
  · subst q
    exact absurd (set_at hj).1.symm hn
  · rw [List.getElem?_set_ne (Ne.symm q), List.getElem?_set_ne (Ne.symm q)]
theorem SE.setV {K : PySem.W.Frag} {C : Cn} {F H : Hp} {σ : L2.St} {ρ : En} (e : SE K C F H σ ρ) (i : Nat) (v : V) : SE K C F H (σ.set i (some v)) (ρ.set i (.v v)) := e.set rfl fun z => nomatch z
abbrev W0 : WX := fun _ _ _ _ => False
/-- what a handler leaves: its name's slot is free again -/
def hdD (D : DE) (i : Nat) : DE := { nx := fun r => D.nx (r.set i .un), rt := D.rt, bk := fun r => D.bk (r.set i .un), ct := fun r => D.ct (r.set i .un), rn := D.rn, rq := D.rq, rz := D.rz }
theorem sd_try_as (i : Nat) {c : Value} {b₀ : Stmt} (M : Value → List (Str × PyData) → En → Prop) (hs : X.stack = X.env :: X.outer) (hf : X.env.frame = some X.env.locals) (hN : X.N.Nodup) (hc : Names X w c) (tk : L2N.Takes X W)
    (hb : ∀ (W : WX) (pn : List (Addr × Obj)) (xe : Value → Shared → Prop), L2N.Takes (X.tr pn xe) W → PassesOwn (model X.prog X.w) X.A X.env xe → BD (X.tr pn xe) W body ρ { D with ex := M })
    (hh : ∀ cls fs ρ', M cls fs ρ' → ∃ b, PySem.W.exmOne X.K cls c = some b ∧ (b = true → ∀ (a : Addr) (oe : Obj) (d : Option Addr) (pn : List (Addr × Obj)), L2N.Zn cls d oe → (∃ vs, oe.data = .fields vs) → (fs = [] → d = none) → BD (X.suite a ((a, oe) :: pn)) W0 (b₀ :: suite) (ρ'.set i (.v (.ref a))) (hdD D i)) ∧ (b = false → D.ex cls fs ρ'))
    (hM : ∀ cls fs ρ', M cls fs ρ' → fs = []) (hi : X.N[i]? = some n := by rfl) (hln : X.env.kindOf n = some .local := by rfl) :
    SD X W (.Try body [.ExceptHandler (some (.Name w np)) (some n) (b₀ :: suite) pos'] [] [] pos) ρ D := by
  have hsu : ∀ (a : Addr) (oe : Obj) (cls : Value) (d : Option Addr) (pn : List (Addr × Obj)), L2N.Zn cls d oe → (∃ vs, oe.data = .fields vs) → PSs (X.suite a ((a, oe) :: pn)) (b₀ :: suite)
      (fun E σ H => ∃ q : { q : List (Str × PyData) × En // M cls q.1 q.2 ∧ PySem.W.exmOne X.K cls c = some true ∧ d = none }, tD X.K W0 (q.1.2.set i (.v (.ref a))) (hdD D i) E σ H) := fun a oe cls d pn hz hv => PSs_ex fun q => by
    obtain ⟨b, h1, h2, _⟩ := hh cls q.1.1 q.1.2 q.2.1
    rw [q.2.2.1] at h1
    cases h1
    exact h2 rfl a oe d pn hz hv fun _ => q.2.2.2
  refine PS_imp (L2N.ps_try_as hs hf hN hi hln hc tk (tb := fun W => tD X.K W ρ { D with ex := M }) (fun W pn xe t p => hb W pn xe t p) hsu) fun E σ H ⟨C, F, se, cv⟩ => ⟨C, F, se, ?_⟩
  refine ⟨cv.nx, cv.rt, fun cls fs ρ' d F' H' σ' m s r => ?_, cv.bk, cv.ct, cv.rn, cv.rq, cv.rz⟩
  have e0 := hM cls fs ρ' m
  subst e0
  obtain ⟨b, h1, h2, h3⟩ := hh cls [] ρ' m
  refine ⟨b, h1, fun hb1 a na => ?_, fun hb0 => cv.ex cls [] ρ' d F' H' σ' (h3 hb0) s r⟩
  subst hb1
  cases d with
  | some dd =>
    exact absurd rfl r.1
  | none =>
    refine ⟨⟨([], ρ'), m, h1, rfl⟩, C, F', s.setV i _, ?_⟩
    exact ⟨fun r F2 H2 σ2 q s2 => cv.nx _ F2 H2 _ q (s2.unset i), cv.rt, fun _ _ _ _ _ _ _ z => z.elim, fun r F2 H2 σ2 q s2 => cv.bk _ F2 H2 _ q (s2.unset i), fun r F2 H2 σ2 q s2 => cv.ct _ F2 H2 _ q (s2.unset i), cv.rn, cv.rq, cv.rz⟩
/-- isinstance(e, c), e the exception that is held -/
theorem pd_isX {a0 : Addr} {oe : Obj} {pn : List (Addr × Obj)} {q : Pos} {cv : Value} {vc : V} (i : Nat) (xc : ExcC X.K C) (hz : L2N.Zn (.ref C) none oe) (hf : ∃ vs, oe.data = .fields vs) (hk : PySem.W.kitOne X.K (.ref C) cv = some k) (hv : ∀ u, RelV vc u → u = cv) (hm : X.mg ("isinstance" : Str) = none) (hi : ρ[i]? = some (.v (.ref a0))) (hc : PE (X.suite a0 ((a0, oe) :: pn)) c (tC vc))
    (hN : (X.suite a0 ((a0, oe) :: pn)).N[i]? = some n := by rfl) (hvis : Vis (X.suite a0 ((a0, oe) :: pn)).env.scope n := by first | exact Or.inl rfl | exact Or.inr (Or.inl rfl) | exact Or.inr (Or.inr rfl)) (hd : (n == ("__debug__" : Str)) = false := by decide) (hcd : (n == ("__classdict__" : Str)) = false := by decide)
    (hg : Gl (X.suite a0 ((a0, oe) :: pn)) "isinstance" := by rfl) (he : starEach [.Name n q, c] (X.suite a0 ((a0, oe) :: pn)).env = (false, eval (.Name n q) (X.suite a0 ((a0, oe) :: pn)).env) :: starEach [c] (X.suite a0 ((a0, oe) :: pn)).env := by rfl) (he2 : starEach [c] (X.suite a0 ((a0, oe) :: pn)).env = (false, eval c (X.suite a0 ((a0, oe) :: pn)).env) :: starEach [] (X.suite a0 ((a0, oe) :: pn)).env := by rfl)
    (hpl : (backTo pos (starEach [c] (X.suite a0 ((a0, oe) :: pn)).env)).any (·.1) = false := by rfl) : PD (X.suite a0 ((a0, oe) :: pn)) (.Call (.Name "isinstance" p) [.Name n q, c] [] pos) ρ (.bool k) ρ :=
  PE_imp (pe_callB (call_isE xc hz.zc hf) hg hm rfl (pa_cons (pe_var hN hvis hd hcd) (pa_cons hc pa_nil he2) he) (by decide) (by decide) he hpl) fun σ H Q ⟨C, F, se, qq⟩ => by
    have h0 : σ[i]?.join = some (V.ref a0) := se.ok i _ hi
    exact ⟨.ref a0, join_some h0, vc, cv, k, rfl, hv, hk, qq _ F H (.refl _) se (.bl _)⟩
end
end G
namespace G
open PySem PySem.Spec PyProof.Rows L2
/-- a whole number in bounds -/
def isNum : PyData → Int → Int → Bool
  | .int i, l, m => decide (l ≤ i) && decide (i ≤ m)
  | _, _, _ => false
theorem isNum_int {i l m : Int} : isNum (.int i) l m = (decide (l ≤ i) && decide (i ≤ m)) := rfl
theorem isNum_inv {d : PyData} {l m : Int} (h : isNum d l m = true) : ∃ i, d = .int i ∧ l ≤ i ∧ i ≤ m := by
  cases d with
  | int i =>
    rw [isNum_int, Bool.and_eq_true] at h
    exact ⟨i, rfl, of_decide_eq_true h.1, of_decide_eq_true h.2⟩
  | _ => cases h
/-- its text is short -/
def Sml (i : Int) : Prop := (toString i : Str).length ≤ 1000 ∧ i.natAbs.log2 < 1920
theorem strlen_add (a b : Str) : (a ++ b).length = a.length + b.length := by
  show (a.cps ++ b.cps).size = _
  rw [Array.size_append]
  rfl
end G
namespace G
open PySem PySem.Spec PyProof.Rows L2
instance (i : Int) : Decidable (Sml i) := inferInstanceAs (Decidable (_ ∧ _))
theorem sml_of {n : Int} (h0 : 0 ≤ n) (h : n < 10 ^ 10) : Sml n := by
  refine ⟨?_, ?_⟩
  · have h1 := PyProof.Rows.toString_length_le h0 (show 0 < 10 by decide) h
    have h2 : ((toString n : String) : Str).length ≤ 10 := h1
    omega
  · exact Nat.lt_of_lt_of_le (PySem.Flt.log2_lt_of (k := 34) (by decide) (by omega)) (by decide)
end G

/-! GMore: sorted, in, reversed, insert, repetition. -/
namespace G
open PySem PySem.Spec PyProof.Rows L2
/-- ints in order -/
def srt (ns : List Int) : List Int := ns.mergeSort fun a b => decide (a ≤ b)
theorem srt_perm (ns : List Int) : (srt ns).Perm ns := List.mergeSort_perm ns _
theorem srt_ord (ns : List Int) : (srt ns).Pairwise (· ≤ ·) := by
  have h := List.pairwise_mergeSort (le := fun a b : Int => decide (a ≤ b)) (fun a b c h1 h2 => by simp only [decide_eq_true_eq] at h1 h2 ⊢; omega) (fun a b => by simp only [Bool.or_eq_true, decide_eq_true_eq]; omega) ns
  exact h.imp fun h => by simpa using h
theorem ord_one {a b : List Int} (hp : a.Perm b) (ha : a.Pairwise (· ≤ ·)) (hb : b.Pairwise (· ≤ ·)) : a = b :=
  hp.eq_of_pairwise (fun x y _ _ h1 h2 => Int.le_antisymm h1 h2) ha hb
theorem srt_of {a b : List Int} (hp : a.Perm b) (ha : a.Pairwise (· ≤ ·)) : a = srt b := ord_one (hp.trans (srt_perm b).symm) ha (srt_ord b)
theorem srt_mem {ns : List Int} {x : Int} : x ∈ srt ns ↔ x ∈ ns := (srt_perm ns).mem_iff
theorem srt_len (ns : List Int) : (srt ns).length = ns.length := (srt_perm ns).length_eq
theorem srt_srt (ns : List Int) : srt (srt ns) = srt ns := srt_of ((srt_perm _).trans (srt_perm ns)) (srt_ord _)
section
variable {X : Cx} {W : WX} {e a b c tg iter elt : Expr} {es : List Expr} {p pos pos' : Pos} {ρ ρ' ρ1 ρ2 ρ3 : En} {x y z : PyData} {st : Stmt} {rest A B body : List Stmt} {D : DE} {k k' : Bool} {i j : Int} {w : Str} {α β γ : Type} {f : α → PyData} {ns ms : List α}
theorem pn_sorted {ns : List Int} {src : Option Nat} (hm : X.mg ("sorted" : Str) = none) (h : PQ X a ρ src (ns.map .int) ρ1) (ok : SrcOk ρ1 src (ns.map .int)) (hg : Gl X "sorted" := by rfl) (he : starEach [a] X.env = (false, eval a X.env) :: starEach [] X.env := by rfl) : PN X (.Call (.Name "sorted" p) [a] [] pos) ρ (.l ((srt ns).map .int)) ρ1 :=
  PE_imp (pe_callB cr_sortedI hg hm rfl (pa_cons h pa_nil he) (by decide) (by decide) he) fun σ H Q ⟨C, F, se, q⟩ => ⟨C, F, se, fun v F1 H1 x1 e1 r1 => by
    obtain ⟨a, vs, rfl, l, rr⟩ := r1.look e1 ok
    rw [rr.ints_inv] at l
    refine ⟨_, ns, rfl, l, fun ns' p hp ho hn => ?_⟩
    obtain ⟨h1, h2, h3, h4⟩ := e1.lay (o := .lst (ns'.map .int)) hn
    rw [srt_of hp ho] at h1 ⊢
    exact q p F1 _ x1 h1 h2 h3 h4 ⟨_, upd_same, .ints _⟩⟩
theorem any_eqI {i : Int} : ∀ ns : List Int, inV (.int i) (ns.map V.int) = decide (i ∈ ns)
  | [] => rfl
  | n :: ns => by
    have ih := any_eqI (i := i) ns
    unfold inV at ih ⊢
    rw [List.map_cons, List.any_cons, ih]
    have : eqV (.int n) (.int i) = decide (n = i) := rfl
    rw [this]
    by_cases h : n = i
    · subst h; simp
    · have : ¬ i = n := fun z => h z.symm
      by_cases h2 : i ∈ ns <;> simp [h, this, h2]
theorem flat_ints : ∀ ns : List Int, (ns.map V.int).all flatV = true
  | [] => rfl
  | n :: ns => by rw [List.map_cons, List.all_cons, flat_ints ns]; rfl
theorem td_inI {ns : List Int} {src : Option Nat} (ha : PD X a ρ (.int i) ρ1) (hb : PQ X b ρ1 src (ns.map .int) ρ2) (ok : SrcOk ρ2 src (ns.map .int)) (hm : behindInMarks .In b = false := by rfl) : TD X (.Compare a [.In] [b] pos) ρ (decide (i ∈ ns)) ρ2 :=
  PT_imp (pt_cmpR op_in_seq ha hb hm) fun σ H Q ⟨C, F, se, q⟩ => ⟨C, F, se, fun v F1 H1 x1 e1 r1 => ⟨C, F1, e1, fun w F2 H2 x2 e2 r2 => by
    obtain ⟨p, vs, rfl, l, rr⟩ := r2.look e2 ok
    rw [rr.ints_inv] at l
    rw [rp_int r1]
    refine ⟨p, _, rfl, .inl l, rfl, flat_ints ns, ?_⟩
    rw [show (if false = true then _ else inV (.int i) (ns.map V.int)) = inV (.int i) (ns.map V.int) from rfl, any_eqI]
    exact ⟨_, rfl, q F2 H2 (x1.trans x2) e2⟩⟩⟩
theorem pd_inI {ns : List Int} {src : Option Nat} (ha : PD X a ρ (.int i) ρ1) (hb : PQ X b ρ1 src (ns.map .int) ρ2) (ok : SrcOk ρ2 src (ns.map .int)) (hm : behindInMarks .In b = false := by rfl) : PD X (.Compare a [.In] [b] pos) ρ (.bool (decide (i ∈ ns))) ρ2 :=
  PE_imp (pe_cmpR op_in_seq ha hb hm) fun σ H Q ⟨C, F, se, q⟩ => ⟨C, F, se, fun v F1 H1 x1 e1 r1 => ⟨C, F1, e1, fun w F2 H2 x2 e2 r2 => by
    obtain ⟨p, vs, rfl, l, rr⟩ := r2.look e2 ok
    rw [rr.ints_inv] at l
    rw [rp_int r1]
    refine ⟨p, _, rfl, .inl l, rfl, flat_ints ns, ?_⟩
    rw [show (if false = true then _ else inV (.int i) (ns.map V.int)) = inV (.int i) (ns.map V.int) from rfl, any_eqI]
    exact q _ F2 H2 (x1.trans x2) e2 (.bl _)⟩⟩
theorem td_notinI {ns : List Int} {src : Option Nat} (ha : PD X a ρ (.int i) ρ1) (hb : PQ X b ρ1 src (ns.map .int) ρ2) (ok : SrcOk ρ2 src (ns.map .int)) (hm : behindInMarks .NotIn b = false := by rfl) : TD X (.Compare a [.NotIn] [b] pos) ρ (!decide (i ∈ ns)) ρ2 :=
  PT_imp (pt_cmpR op_notIn_seq ha hb hm) fun σ H Q ⟨C, F, se, q⟩ => ⟨C, F, se, fun v F1 H1 x1 e1 r1 => ⟨C, F1, e1, fun w F2 H2 x2 e2 r2 => by
    obtain ⟨p, vs, rfl, l, rr⟩ := r2.look e2 ok
    rw [rr.ints_inv] at l
    rw [rp_int r1]
    refine ⟨p, _, rfl, .inl l, rfl, flat_ints ns, ?_⟩
    rw [show (if true = true then !inV (.int i) (ns.map V.int) else inV (.int i) (ns.map V.int)) = !inV (.int i) (ns.map V.int) from rfl, any_eqI]
    exact ⟨_, rfl, q F2 H2 (x1.trans x2) e2⟩⟩⟩
theorem pd_notinI {ns : List Int} {src : Option Nat} (ha : PD X a ρ (.int i) ρ1) (hb : PQ X b ρ1 src (ns.map .int) ρ2) (ok : SrcOk ρ2 src (ns.map .int)) (hm : behindInMarks .NotIn b = false := by rfl) : PD X (.Compare a [.NotIn] [b] pos) ρ (.bool (!decide (i ∈ ns))) ρ2 :=
  PE_imp (pe_cmpR op_notIn_seq ha hb hm) fun σ H Q ⟨C, F, se, q⟩ => ⟨C, F, se, fun v F1 H1 x1 e1 r1 => ⟨C, F1, e1, fun w F2 H2 x2 e2 r2 => by
    obtain ⟨p, vs, rfl, l, rr⟩ := r2.look e2 ok
    rw [rr.ints_inv] at l
    rw [rp_int r1]
    refine ⟨p, _, rfl, .inl l, rfl, flat_ints ns, ?_⟩
    rw [show (if true = true then !inV (.int i) (ns.map V.int) else inV (.int i) (ns.map V.int)) = !inV (.int i) (ns.map V.int) from rfl, any_eqI]
    exact q _ F2 H2 (x1.trans x2) e2 (.bl _)⟩⟩
/-- for x in reversed(xs), xs data -/
theorem id_rev {xs : List PyData} (hm : X.mg ("reversed" : Str) = none) (h : PD X e ρ (.list xs) ρ') (hg : Gl X "reversed" := by rfl) (hs : starEach [e] X.env = (false, eval e X.env) :: starEach [] X.env := by rfl) : ID X tg (.Call (.Name "reversed" p) [e] [] pos) ρ xs.reverse (fun _ => True) none ρ' :=
  PI_imp (RT.pi_revA hg hm h hs) fun σ H R ⟨C, F, se, q⟩ => ⟨C, F, se, fun v F1 H1 x1 e1 r1 => by
    cases r1 with
    | @lst a vs _ l rr =>
      refine ⟨a, vs, rfl, .inl ⟨e1.fr.ext.l l, q _ F1 H1 x1 e1 ?_⟩⟩
      have hl := rr.length
      refine ⟨fun i C F H σ ρ x se _ _ hi => ?_, fun C F H σ ρ x se _ _ => ?_, fun i C F H σ ρ v H1 x se _ _ hi hy => ?_⟩
      · rw [List.length_reverse] at hi
        obtain ⟨v, hv⟩ : ∃ v, vs[vs.length - 1 - i]? = some v := ⟨_, List.getElem?_eq_getElem (by omega)⟩
        exact ⟨by omega, vs, v, (x.trans se.fr.ext).l l, hv⟩
      · rw [List.length_reverse]
        show vs.length ≤ xs.length
        omega
      · rw [List.length_reverse] at hi
        obtain ⟨rfl, hy⟩ := hy
        have hv := hy vs ((x.trans se.fr.ext).l l)
        obtain ⟨d, hd, rd⟩ := rr.getV hv
        refine ⟨d, F, ?_, .refl _, se, rd.mono x⟩
        rw [List.getElem?_reverse hi, ← hd, hl]⟩
/-- o.insert(i, x), o a name that owns its list -/
theorem sd_insert (i : Nat) {o : Str} {p1 p2 p3 : Pos} {pa pb : Option Addr} {ys xs : List PyData} {n : Nat} (h0 : ρ[i]? = some (.o pa (.l ys))) (ha : PD X a ρ (.int (n : Int)) ρ1) (he : PD X e ρ1 x ρ2) (h1 : ρ2[i]? = some (.o pb (.l xs))) (hn : n < 2 ^ 62) (hl : xs.length < 100000) (h : D.nx (ρ2.set i (.o pb (.l (xs.take n ++ [x] ++ xs.drop n)))))
    (hN : X.N[i]? = some o := by rfl) (hv : Vis X.env.scope o := by first | exact Or.inl rfl | exact Or.inr (Or.inl rfl) | exact Or.inr (Or.inr rfl)) (hd : (o == ("__debug__" : Str)) = false := by decide) (hcd : (o == ("__classdict__" : Str)) = false := by decide)
    (hbase : attributeBase (.Name o p1) "insert" X.env (eval (.Name o p1) X.env) = eval (.Name o p1) X.env := by rfl)
    (hfew : ((backTo p3 (starEach [a, e] X.env)).all (fun x => !x.1) && (backToKw p3 (keywordEach [] X.env)).all (fun x => x.1.isSome)
      && decide ([a, e].length + ([] : List Keyword).length + (if ([] : List Keyword).isEmpty then 0 else 1) < 30)) = true := by rfl)
    (hline : (p2.endLine == p3.line) = true := by rfl) (hs : starEach [a, e] X.env = (false, eval a X.env) :: starEach [e] X.env := by rfl) (hs2 : starEach [e] X.env = (false, eval e X.env) :: starEach [] X.env := by rfl)
    (hany : (backTo p3 (starEach [e] X.env)).any (fun x => x.1) = false := by rfl) (hsw : swapsWith (.Call (.Attribute (.Name o p1) "insert" p2) [a, e] [] p3) none pos.line X.env = pure false := by rfl) :
    SD X W (.Expr (.Call (.Attribute (.Name o p1) "insert" p2) [a, e] [] p3) pos) ρ D := by
  refine PS_imp (ps_expr (pe_bm PySem.F.plainAttrs_list PySem.F.slot_list_insert PySem.F.type_list_insert mt_insert (pe_var hN hv hd hcd) (pa_cons ha (pa_cons he pa_nil hs2) hs) hbase hfew hline hs hany) hsw) fun E σ H ⟨C, F, se, cv⟩ => ?_
  obtain ⟨l, a1, _, ⟨vs, a2, a3⟩, a4⟩ := se.getO h0
  refine ⟨.ref l, a1, .inl ⟨rfl, vs, SqL.of a2⟩, C, F, se, fun u F1 H1 x1 e1 r1 => ⟨C, F1, e1, fun v F2 H2 x2 e2 r2 => ?_⟩⟩
  obtain ⟨l', b1, _, ⟨us, b2, b3⟩, b4⟩ := e2.getO h1
  rw [a1] at b1
  cases b1
  rw [rp_int r1]
  refine ⟨l, us, n, v, rfl, rfl, b2, by rw [b3.length]; exact line_lt hl, by omega, by omega, cv.nx _ F2 _ _ h ?_⟩
  rw [Int.toNat_natCast]
  exact e2.wr h1 a1 ⟨_, upd_same, ((b3.take n).append (.cons r2 .nil)).append (b3.drop n)⟩
theorem rpa_rep {K : PySem.W.Frag} {F : Hp} {us : List V} {xs : List PyData} (u : RpA K F us xs) : ∀ n : Nat, RpA K F (List.replicate n us).flatten (List.replicate n xs).flatten
  | 0 => .nil
  | m + 1 => by rw [List.replicate_succ, List.replicate_succ, List.flatten_cons, List.flatten_cons]; exact u.append (rpa_rep u m)
/-- [x, ..] * n, a new list -/
theorem pn_rep {xs : List PyData} {n : Nat} (ha : AD X es ρ xs ρ1) (hb : PD X b ρ1 (.int (n : Int)) ρ2) (hl : xs.length * n ≤ 100000) (hn : n < 2 ^ 62) (hx : xs.length ≤ 100000 := by exact Nat.le_of_ble_eq_true rfl) (hr : ∀ F H F' H' : Hp, True := by intros; trivial) : PN X (.BinOp (.List es pos') .Mult b pos) ρ (.l (List.replicate n xs).flatten) ρ2 :=
  PE_imp (pe_op op_rep (pn_lst ha hx) hb) fun σ H Q ⟨C, F, se, q⟩ => ⟨C, F, se, fun p F1 H1 x1 e1 f1 c1 o1 w1 => by
    obtain ⟨us, u1, u2⟩ := w1
    refine ⟨C.pin F1 p (.lst us), F1, e1.pin c1 u1 o1, fun w F2 H2 x2 e2 r2 => ?_⟩
    obtain ⟨e3, f3, g3, o3⟩ := e2.unpin e1.fr c1 f1
    rw [rp_int r2]
    refine ⟨p, n, us, rfl, rfl, g3, by omega, by omega, by rw [u2.length, Int.toNat_natCast]; exact line_of hl, fun t ht => ?_⟩
    obtain ⟨h1, h2, h3, h4⟩ := e3.lay (o := .lst (List.replicate n us).flatten) ht
    rw [Int.toNat_natCast]
    refine q t F2 _ (x1.trans x2) h1 h2 h3 h4 ⟨_, upd_same, ?_⟩
    exact rpa_rep (u2.mono x2) n⟩
end
end G

namespace G
open PySem PySem.Spec PyProof.Rows L2
theorem drawS (p : Pool) {n : Int} (h : 0 < n) (h2 : n < 1073741824) : ∃ (v : Int) (q : Pool), SDraw (pl p) [.int n] (.int v) (pl q) ∧ 0 ≤ v ∧ v < n :=
  ⟨_, _, ⟨p, n, _, rfl, rfl, ⟨h, h2⟩, rfl, rfl, rfl⟩, draw_bd p h⟩
theorem pickS {α : Type} [Inhabited α] (p : Pool) (ns : List α) (f : α → PyData) (h : 0 < ns.length) (h2 : ns.length < 100000) : ∃ (x : α) (q : Pool), x ∈ ns ∧ SPick (pl p) [.list (ns.map f)] (f x) (pl q) := by
  have b := draw_bd p (n := (ns.length : Int)) (by omega)
  refine ⟨gI ns (drawP p ns.length).1, (drawP p ns.length).2, gI_mem ⟨by omega, b.2⟩, p, ns.map f, drawP p ns.length, rfl, rfl, ⟨by rw [List.length_map]; exact h, by rw [List.length_map]; exact h2⟩, by rw [List.length_map], ?_, rfl⟩
  rw [List.getElem?_map]
  unfold gI
  rw [if_neg (by omega)]
  have hlt : (drawP p ns.length).1.toNat < ns.length := by omega
  rw [List.getElem?_eq_getElem hlt, getElem!_pos ns _ hlt]
  rfl
theorem range_at {n i a : Nat} (h : (List.range n)[i]? = some a) : i = a ∧ a < n := by
  have hi : i < (List.range n).length := by
    rcases Nat.lt_or_ge i (List.range n).length with c | c
    · exact c
    · rw [List.getElem?_eq_none c] at h; cases h
  rw [List.getElem?_eq_getElem hi] at h
  rw [List.length_range] at hi
  simp at h
  exact ⟨h, by omega⟩
theorem nice_opt {α : Type} {d : Nat} {f : α → PyData} {o : Option α} (h : ∀ a, Nice d (f a)) : Nice d (dO f o) := by
  cases o with
  | none => exact .non
  | some a => exact h a
theorem nice_all {α : Type} {d : Nat} {f : α → PyData} {xs : List α} (h : ∀ a, a ∈ xs → Nice d (f a)) : ∀ x ∈ xs.map f, Nice d x := fun x hx => by
  obtain ⟨a, ha, rfl⟩ := List.mem_map.mp hx
  exact h a ha
theorem nice_t2 {d : Nat} {x y : PyData} (h : Nice d x) (h2 : Nice d y) : Nice (d + 1) (.tuple [x, y]) := .tup (by simp) fun z hz => by
  simp at hz
  rcases hz with rfl | rfl <;> assumption
theorem nice_t3 {d : Nat} {x y u : PyData} (h : Nice d x) (h2 : Nice d y) (h3 : Nice d u) : Nice (d + 1) (.tuple [x, y, u]) := .tup (by simp) fun z hz => by
  simp at hz
  rcases hz with rfl | rfl | rfl <;> assumption
theorem scan_mem2 {S α β : Type} (step : S → α → S) (keep : S → α → Bool) (val : S → α → β) (P : β → Prop) (h : ∀ s a, P (val s a)) : ∀ (xs : List α) (s : S), ∀ y ∈ scanV step keep val s xs, P y
  | [], _, y, hy => by cases hy
  | a :: xs, s, y, hy => by
    unfold scanV at hy
    split at hy
    · rcases List.mem_cons.mp hy with e | e
      · rw [e]; exact h s a
      · exact scan_mem2 step keep val P h xs _ y e
    · exact scan_mem2 step keep val P h xs _ y hy
theorem scan_len {S α β : Type} (step : S → α → S) (keep : S → α → Bool) (val : S → α → β) (h : ∀ s a, keep s a = true) : ∀ (xs : List α) (s : S), (scanV step keep val s xs).length = xs.length
  | [], _ => rfl
  | a :: xs, s => by
    unfold scanV
    rw [if_pos (h s a), List.length_cons, List.length_cons, scan_len step keep val h xs]
theorem dO_get {α : Type} {f : α → PyData} {d : α} {o : Option α} (h : o.isNone = false) : dO f o = f (o.getD d) := by
  cases o with
  | none => cases h
  | some a => rfl
theorem dO_all {xs : List (Option Int)} (h : ∀ o ∈ xs, o.isNone = false) : xs.map (dO PyData.int) = (xs.map (fun o : Option Int => o.getD 0)).map PyData.int := by
  rw [List.map_map]
  exact List.map_congr_left fun o ho => dO_get (h o ho)
/-- list.insert -/
def insI {α : Type} (xs : List α) (i : Int) (v : α) : List α := xs.take i.toNat ++ [v] ++ xs.drop i.toNat
theorem insI_perm {α : Type} (xs : List α) (i : Int) (v : α) : (insI xs i v).Perm (v :: xs) := by
  unfold insI
  have h := (List.perm_append_comm (l₁ := xs.take i.toNat) (l₂ := [v])).append_right (xs.drop i.toNat)
  rw [List.append_assoc [v], List.take_append_drop] at h
  exact h
section
variable {X : Cx} {W : WX} {e a b c tg iter elt : Expr} {es : List Expr} {p pos pos' : Pos} {ρ ρ' ρ1 ρ2 ρ3 : En} {x y z : PyData} {st : Stmt} {rest A B body : List Stmt} {D : DE} {k k' : Bool} {i j : Int} {w : Str} {α β γ : Type} {ns ms : List α}
theorem pn_ift (f : α → PyData) {u v : List α} {ct : Ct} (hc : TD X c ρ k ρ1) (hct : Ct.l ((if k = true then u else v).map f) = ct) (ha : k = true → PN X a ρ1 (.l (u.map f)) ρ2) (hb : k = false → PN X b ρ1 (.l (v.map f)) ρ2) : PN X (.IfExp c a b pos) ρ ct ρ2 := by
  subst hct
  cases k with
  | true =>
    have hb' : PE X b (fun _ _ _ => False) := ⟨fun _ _ _ _ _ _ h => h.elim⟩
    exact PE_imp (pe_ifExp hc (ha rfl) hb') fun σ H Q ⟨C, F, se, q⟩ => ⟨C, F, se, fun F1 H1 x1 e1 => by
      refine iteT ?_
      exact ⟨C, F1, e1, fun w F2 H2 x2 => q w F2 H2 (x1.trans x2)⟩⟩
  | false =>
    have ha' : PE X a (fun _ _ _ => False) := ⟨fun _ _ _ _ _ _ h => h.elim⟩
    exact PE_imp (pe_ifExp hc ha' (hb rfl)) fun σ H Q ⟨C, F, se, q⟩ => ⟨C, F, se, fun F1 H1 x1 e1 => by
      refine iteF ?_
      exact ⟨C, F1, e1, fun w F2 H2 x2 => q w F2 H2 (x1.trans x2)⟩⟩
theorem id_revM {f : α → PyData} (hm : X.mg ("reversed" : Str) = none) (h : PD X e ρ (.list (ns.map f)) ρ') (hg : Gl X "reversed" := by rfl) (hs : starEach [e] X.env = (false, eval e X.env) :: starEach [] X.env := by rfl) : ID X tg (.Call (.Name "reversed" p) [e] [] pos) ρ (ns.reverse.map f) (fun _ => True) none ρ' := by
  rw [List.map_reverse]
  exact id_rev hm h hg hs
theorem pn_rep1 {f : α → PyData} {v : α} {n : Int} (ha : PD X a ρ (f v) ρ1) (hb : PD X b ρ1 (.int n) ρ2) (hn : 0 ≤ n ∧ n ≤ 100000) (hs : starEach [a] X.env = (false, eval a X.env) :: starEach [] X.env := by rfl) : PN X (.BinOp (.List [a] pos') .Mult b pos) ρ (.l ((List.replicate n.toNat v).map f)) ρ2 := by
  obtain ⟨m, rfl⟩ : ∃ m : Nat, n = m := ⟨n.toNat, by omega⟩
  have h := pn_rep (pos := pos) (pos' := pos') (n := m) (ad_one ha hs) hb (by simp; omega) (by omega)
  rw [Int.toNat_natCast]
  refine pn_cast ?_ h
  congr 1
  rw [List.map_replicate]
  clear h hb hn
  induction m with
  | zero => rfl
  | succ m ih => rw [List.replicate_succ, List.flatten_cons, ih, List.replicate_succ]; rfl
theorem sd_insertM {f : α → PyData} {v : α} {n : Int} {o : Str} {p1 p2 p3 : Pos} {pa pb : Option Addr} {ys : List PyData} (i : Nat) (h0 : ρ[i]? = some (.o pa (.l ys))) (ha : PD X a ρ (.int n) ρ1) (he : PD X e ρ1 (f v) ρ2) (h1 : ρ2[i]? = some (.o pb (.l (ns.map f)))) (hn : 0 ≤ n ∧ n < 2 ^ 62) (hl : ns.length < 100000) (h : D.nx (ρ2.set i (.o pb (.l ((insI ns n v).map f)))))
    (hN : X.N[i]? = some o := by rfl) (hv : Vis X.env.scope o := by first | exact Or.inl rfl | exact Or.inr (Or.inl rfl) | exact Or.inr (Or.inr rfl)) (hd : (o == ("__debug__" : Str)) = false := by decide) (hcd : (o == ("__classdict__" : Str)) = false := by decide)
    (hbase : attributeBase (.Name o p1) "insert" X.env (eval (.Name o p1) X.env) = eval (.Name o p1) X.env := by rfl)
    (hfew : ((backTo p3 (starEach [a, e] X.env)).all (fun x => !x.1) && (backToKw p3 (keywordEach [] X.env)).all (fun x => x.1.isSome)
      && decide ([a, e].length + ([] : List Keyword).length + (if ([] : List Keyword).isEmpty then 0 else 1) < 30)) = true := by rfl)
    (hline : (p2.endLine == p3.line) = true := by rfl) (hs : starEach [a, e] X.env = (false, eval a X.env) :: starEach [e] X.env := by rfl) (hs2 : starEach [e] X.env = (false, eval e X.env) :: starEach [] X.env := by rfl)
    (hany : (backTo p3 (starEach [e] X.env)).any (fun x => x.1) = false := by rfl) (hsw : swapsWith (.Call (.Attribute (.Name o p1) "insert" p2) [a, e] [] p3) none pos.line X.env = pure false := by rfl) :
    SD X W (.Expr (.Call (.Attribute (.Name o p1) "insert" p2) [a, e] [] p3) pos) ρ D := by
  obtain ⟨m, rfl⟩ : ∃ m : Nat, n = m := ⟨n.toNat, by omega⟩
  refine sd_insert (n := m) i h0 ha he h1 (by omega) (by rw [List.length_map]; exact hl) ?_ hN hv hd hcd hbase hfew hline hs hs2 hany hsw
  unfold insI at h
  rw [Int.toNat_natCast, List.map_append, List.map_append, List.map_take, List.map_drop] at h
  exact h
theorem sd_forM (xs : List α) (td : α → PyData) (I : Nat → En → Prop) {ok : En → Prop} (hp : PassesOwn (model X.prog X.w) X.A X.env X.xe) (hc : X.calm = true) (hi : ID X tg iter ρ (xs.map td) ok none ρ1) (h0 : Lee (I 0) ρ1) (hok : ∀ i ρ', I i ρ' → ok ρ')
    (hs : ∀ i a ρ', xs[i]? = some a → I i ρ' → ∃ ρ2, GD X tg (td a) ρ' ρ2 ∧ BD X W body ρ2 { D with nx := Lee (I (i + 1)), ct := Lee (I (i + 1)), bk := D.nx }) (hd : ∀ ρ', I xs.length ρ' → D.nx ρ')
    (hf : ∀ x, foldedSetIterable iter X.env x = pure x := by intro _; rfl) : SD X W (.For tg iter body [] pos) ρ D :=
  sd_for I hp hc hi h0 hok (fun i d ρ' h hI => by
    rw [List.getElem?_map] at h
    obtain ⟨a, ha, rfl⟩ := Option.map_eq_some_iff.mp h
    exact hs i a ρ' ha hI) (fun ρ' h => hd ρ' (by rw [List.length_map] at h; exact h)) hf
theorem pd_notN {k} {p' : Pos} (ha : PD X a ρ x ρ1) : PD X (.Compare a [.IsNot] [.Constant .none k p'] pos) ρ (.bool (!isNone x)) ρ1 :=
  pd_cmp (op_notN) (fun F H v w Q e r1 r2 q => ⟨rp_non r2, q _ F H (.refl e) (by rw [isNone_v r1]; exact .bl _)⟩) ha pd_non (nomark _)
/-- x, y = a, b -/
theorem sd_par2 (i j : Nat) {x' y' : Str} {px py pt : Pos} {kt k2 : Nat} {pt2 : Pos} (ha : AD X [a, b] ρ [x, y] ρ1) (h : D.nx ((ρ1.set i (.d x)).set j (.d y))) (hN : X.N.Nodup) (hc : X.calm = true := by rfl) (hi : X.N[i]? = some x' := by rfl) (hj : X.N[j]? = some y' := by rfl) (hij : i ≠ j := by decide)
    (hx : X.env.scope.names.lookup x' = some .local := by rfl) (hy : X.env.scope.names.lookup y' = some .local := by rfl)
    (hw : swappedStores [.Tuple [.Name x' px, .Name y' py] kt pt] (.Tuple [a, b] k2 pt2) X.env = pure (some [x', y']) := by rfl)
    (hs : swapsWithSole [.Tuple [.Name x' px, .Name y' py] kt pt] (.Tuple [a, b] k2 pt2) pos.line X.env = pure false := by rfl) :
    SD X W (.Assign [.Tuple [.Name x' px, .Name y' py] kt pt] (.Tuple [a, b] k2 pt2) pos) ρ D :=
  PS_imp (ps_par hc hN hi hj hij hx hy ha hw hs) fun E σ H ⟨C, F, se, cv⟩ => ⟨C, F, se, fun vs F1 H1 x1 e1 r1 => by
    cases r1 with
    | cons r1 r2 => cases r2 with
      | cons r2 r3 =>
        cases r3
        exact ⟨_, _, rfl, cv.nx _ F1 H1 _ h ((e1.setD r1).setD r2)⟩⟩
theorem sd_par3 (i j l : Nat) {x' y' z' : Str} {px py pz pt : Pos} {kt k2 : Nat} {pt2 : Pos} (ha : AD X [a, b, c] ρ [x, y, z] ρ1) (h : D.nx (((ρ1.set i (.d x)).set j (.d y)).set l (.d z))) (hN : X.N.Nodup) (hc : X.calm = true := by rfl) (hi : X.N[i]? = some x' := by rfl) (hj : X.N[j]? = some y' := by rfl) (hl : X.N[l]? = some z' := by rfl) (hij : i ≠ j := by decide) (hil : i ≠ l := by decide) (hjl : j ≠ l := by decide)
    (hx : X.env.scope.names.lookup x' = some .local := by rfl) (hy : X.env.scope.names.lookup y' = some .local := by rfl) (hz : X.env.scope.names.lookup z' = some .local := by rfl)
    (hw : swappedStores [.Tuple [.Name x' px, .Name y' py, .Name z' pz] kt pt] (.Tuple [a, b, c] k2 pt2) X.env = pure (some [x', y', z']) := by rfl)
    (hs : swapsWithSole [.Tuple [.Name x' px, .Name y' py, .Name z' pz] kt pt] (.Tuple [a, b, c] k2 pt2) pos.line X.env = pure false := by rfl) :
    SD X W (.Assign [.Tuple [.Name x' px, .Name y' py, .Name z' pz] kt pt] (.Tuple [a, b, c] k2 pt2) pos) ρ D :=
  PS_imp (ps_par3 hc hN hi hj hl hij hil hjl hx hy hz ha hw hs) fun E σ H ⟨C, F, se, cv⟩ => ⟨C, F, se, fun vs F1 H1 x1 e1 r1 => by
    cases r1 with
    | cons r1 r2 => cases r2 with
      | cons r2 r3 => cases r3 with
        | cons r3 r4 =>
          cases r4
          exact ⟨_, _, _, rfl, cv.nx _ F1 H1 _ h (((e1.setD r1).setD r2).setD r3)⟩⟩
end
end G

/-! GNest: a comprehension in a comprehension. -/
namespace G
open PySem PySem.Spec PyProof.Rows L2
theorem lookup_relab {env : Env} : ∀ {names : List (Str × NameKind)} {x : Str} {c : NameKind}, names.lookup x = some c →
    (names.map fun (n, k) => if (k == NameKind.free && env.scope.kind == .function && env.kindOf n == some .cell) then (n, NameKind.cell) else (n, k)).lookup x = some c ∨ (c = .free ∧ (names.map fun (n, k) => if (k == NameKind.free && env.scope.kind == .function && env.kindOf n == some .cell) then (n, NameKind.cell) else (n, k)).lookup x = some .cell)
  | [], _, _, h => by simp at h
  | (n, k) :: r, x, c, h => by
    have ih := @lookup_relab env r x c
    show List.lookup x ((if (k == NameKind.free && env.scope.kind == .function && env.kindOf n == some .cell) = true then (n, NameKind.cell) else (n, k)) :: _) = _ ∨ (_ ∧ List.lookup x ((if (k == NameKind.free && env.scope.kind == .function && env.kindOf n == some .cell) = true then (n, NameKind.cell) else (n, k)) :: _) = _)
    cases hx : x == n with
    | true =>
      simp only [List.lookup_cons, hx] at h
      cases h
      by_cases hc : (k == NameKind.free && env.scope.kind == .function && env.kindOf n == some .cell) = true
      · rw [if_pos hc]
        right
        have h1 := (Bool.and_eq_true_iff.mp (Bool.and_eq_true_iff.mp hc).1).1
        refine ⟨?_, by simp only [List.lookup_cons, hx]⟩
        revert h1
        cases k <;> intro z <;> first | rfl | (exact absurd z (by decide))
      · rw [if_neg hc]
        left
        simp only [List.lookup_cons, hx]
    | false =>
      simp only [List.lookup_cons, hx] at h
      by_cases hc : (k == NameKind.free && env.scope.kind == .function && env.kindOf n == some .cell) = true
      · rw [if_pos hc]; simp only [List.lookup_cons, hx]; exact ih h
      · rw [if_neg hc]; simp only [List.lookup_cons, hx]; exact ih h
instance : Inhabited PyData := ⟨.none⟩
theorem blkOk_in {N : List Str} {sc0 scope : Scope} {own : List (Str × Nat)} {cl : List (Str × Addr)} {C : Addr} {env : Env} (h : blkC N sc0 scope own = true) : BlkOk N (compEnvC sc0 cl C env).scope scope own := by
  have b := blkOk_by h
  refine ⟨b.kind, b.uniq, b.ix, fun y hy e => ?_, b.own⟩
  have key : ∀ c, sc0.names.lookup y.1 = some c → (compEnvC sc0 cl C env).scope.names.lookup y.1 = some c ∨ (c = .free ∧ (compEnvC sc0 cl C env).scope.names.lookup y.1 = some .cell) := fun c hc => lookup_relab (names := sc0.names) hc
  rcases b.free y hy e with z | z
  · rcases key _ z with q | q
    · exact .inl q
    · cases q.1
  · rcases key _ z with q | q
    · exact .inr q
    · exact .inl q.2
end G

/-! GHot: a list comprehension over a range, while an exception is handled. -/
namespace G
open PySem PySem.Spec PyProof.Rows L2
/-- the block's context keeps the pins: the handled exception is one of them -/
abbrev blkH (X : Cx) (s : Shared) (H : Hp) (scope : Scope) (ce : Env) (fr : List Addr) : Cx := (X.blk s H scope ce fr).tr X.pn (fun _ _ => False)
abbrev ceOf (X : Cx) (scope : Scope) (n : Nat) : Env := compEnvC scope (cellsFrom (n + 1) scope.names (cloFrom X.env.cells scope.names [])) n X.env
section
variable {X : Cx} {pins : List (Addr × Obj)} {σ : L2.St} {H : Hp} {s : Shared} {scope : Scope} {own : List (Str × Nat)} {elt tg iter : Expr} {ifs : List Expr} {wi : TI} {g : TG} {tt : TT} {te : TE}
theorem startH {fr : List Addr} (I : Inv X pins σ H s) (bo : BlkOk X.N X.env.scope scope own) (hN : X.N.Nodup) (hf : ∀ b ∈ fr, FpOk X pins H b ∧ b < s.heap.objs.size) :
    Inv (blkH X s H scope (ceOf X scope s.heap.objs.size) fr) [] (wipe σ (own.map (·.2))) H { s with heap := pushCells (s.heap.push { cls := .type "dict", data := .dict #[] }) scope.names } := by
  have B := block_start I bo hN hf
  refine ⟨B.ok.toTry _ _, B.os, B.bare, B.base, B.loc, B.cell, B.free, B.freeC, fun p hp => ?_, B.hok, B.len⟩
  have hp : p ∈ X.pn := by simpa using hp
  obtain ⟨p1, p2, p3, p4, p5⟩ := I.pin p (List.mem_append_left _ hp)
  refine ⟨pushCells_keeps _ _ _ _ (Heap.get?_push_of_some _ p1), p2, Nat.ne_of_lt (Heap.lt_size p1), fun z => ?_, p5⟩
  rcases List.mem_cons.mp (I.stkSub _ z) with e | e
  · exact p3 e
  · exact p4 e
theorem lc_hot {Q : VK} {pos pos' : Pos} {use : Option (Value → Sem Unit)} {Qf : Value → Shared → Prop} (hot : L2H.HotC X) (hN : X.N.Nodup) (I : Inv X pins σ H s) (hi : L2H.PIH X tg iter wi) (bo : BlkOk X.N X.env.scope scope own)
    (hg : ∀ (s : Shared) (H : Hp) (C : Addr) (cl : List (Str × Addr)) (fr : List Addr), PG (blkH X s H scope (compEnvC scope cl C X.env) fr) tg g)
    (ht : ∀ (s : Shared) (H : Hp) (C : Addr) (cl : List (Str × Addr)) (fr : List Addr), PTs (blkH X s H scope (compEnvC scope cl C X.env) fr) ifs tt)
    (he : ∀ (s : Shared) (H : Hp) (C : Addr) (cl : List (Str × Addr)) (fr : List Addr), PE (blkH X s H scope (compEnvC scope cl C X.env) fr) elt te)
    (hfold : ∀ x, foldedSetIterable iter X.env x = pure x) (h : tLc wi g tt te (own.map (·.2)) σ H Q)
    (hEnd : ∀ L C s' m H', Inv X pins σ H' s' → Q (.ref L) H' → s'.heap.Ns C m → FpOk X pins H' C → compPost (model X.prog X.w) X.A X.xe use Qf (.ref L) C (.ok .next) s') :
    wpAny (model X.prog X.w) X.A (comprehension (.ListComp elt [⟨tg, iter, ifs, 0⟩] scope pos) scope X.env pos' (newList []) false (eval iter X.env) use) Qf X.xe s := by
  have frees : ∀ y ∈ scope.names, y.2 = .free → ∃ c, X.env.cells.lookup y.1 = some c := fun y hy e => (bo.free y hy e).elim (fun k => I.ok.has _ (.inl k)) (fun k => I.ok.has _ (.inr k))
  refine wpAny_comprehension_free (use := use) rfl hfold (closure_ok frees) bo.kind (fun y hy e => (bo.uniq y hy).trans (congrArg some e))
    (thn (hi.run pins s σ H _ I h) fun xv s1 hx => thn hx fun iv s2 ⟨it, fr, tr, J, H2, ev, I2, T, t2, fk2, q⟩ => ?_)
  subst ev
  refine wpAny_newObj_type (newEnv_comp ?_) (by show 0 ≤ sizeLine; decide)
  generalize eL : s2.heap.objs.size = L
  have fresh : H2 L = none := I2.hok.fresh (Nat.le_of_eq eL)
  obtain ⟨W, ⟨m0, w0⟩, turn⟩ := q L fresh
  generalize e3 : ({ s2 with heap := s2.heap.push { cls := .type "list", data := .seq ([] : List Value).toArray } } : Shared) = s3
  have hp3 : s3.heap = s2.heap.push { cls := .type "list", data := .seq ([] : List Value).toArray } := by rw [← e3]
  have I3 : Inv X pins σ (upd H2 L (.lst [])) s3 := by
    rw [← e3]
    exact I2.laid (t' := s2.toks) (fun b o e => Heap.get?_push_of_some _ e) (Nat.le_of_eq eL) ⟨Nat.zero_le _, [], 0, .nil, by rw [← eL]; exact Heap.get?_push_size _ rfl⟩
  have small : ∀ b ∈ fr, b < s2.heap.objs.size := fun b hb => (T.obj _ _ t2 b hb).elim fun o e => Heap.lt_size e.1
  have fk3 : ∀ b ∈ fr, FpOk X pins (upd H2 L (.lst [])) b ∧ b < s3.heap.objs.size := fun b hb =>
    ⟨⟨by rw [upd_ne (by rw [← eL]; exact Nat.ne_of_lt (small b hb))]; exact (fk2 b hb).1, (fk2 b hb).2⟩, by rw [hp3, Heap.size_push]; exact Nat.lt_succ_of_lt (small b hb)⟩
  have t3 : tr 0 s3.heap := T.keep _ _ _ t2 fun b _ o e => by rw [hp3]; exact Heap.get?_push_of_some _ e
  have I4 := startH I3 bo hN fk3
  have pg := hg s3 (upd H2 L (.lst [])) s3.heap.objs.size (cellsFrom (s3.heap.objs.size + 1) scope.names (cloFrom X.env.cells scope.names [])) fr
  have pt := ht s3 (upd H2 L (.lst [])) s3.heap.objs.size (cellsFrom (s3.heap.objs.size + 1) scope.names (cloFrom X.env.cells scope.names [])) fr
  have pe := he s3 (upd H2 L (.lst [])) s3.heap.objs.size (cellsFrom (s3.heap.objs.size + 1) scope.names (cloFrom X.env.cells scope.names [])) fr
  show codeAny _ _ (.compStart (.ListComp elt [⟨tg, iter, ifs, 0⟩] scope pos) 0 (.ref it) (.ref L) (ceOf X scope s3.heap.objs.size)) (compPost (model X.prog X.w) X.A X.xe use Qf (.ref L) s3.heap.objs.size) { s3 with heap := pushCells (s3.heap.push { cls := .type "dict", data := .dict #[] }) scope.names }
  have none3 : ∀ b ∈ fr, (upd H2 L (.lst [])) b = none := fun b hb => (fk3 b hb).1.1
  have pn3 : ∀ b ∈ fr, ∀ p ∈ X.pn, p.1 ≠ b := fun b hb p hp => (fk3 b hb).1.2.2.2.2.2 p (List.mem_append_left _ hp)
  generalize ece : ceOf X scope s3.heap.objs.size = ce at I4 ⊢
  have ece2 : compEnvC scope (cellsFrom (s3.heap.objs.size + 1) scope.names (cloFrom X.env.cells scope.names [])) s3.heap.objs.size X.env = ce := ece
  rw [ece2] at pg pt pe
  have loc : ce.locals = s3.heap.objs.size := by rw [← ece]; rfl
  generalize eH : upd H2 L (.lst []) = H3 at I3 I4 pg pt pe w0 none3 fk3
  generalize e4 : ({ s3 with heap := pushCells (s3.heap.push { cls := .type "dict", data := .dict #[] }) scope.names } : Shared) = s4 at I4 ⊢
  have t4 : tr 0 s4.heap := T.keep _ _ _ t3 fun b _ o e => by rw [← e4]; exact pushCells_keeps _ _ _ _ (Heap.get?_push_of_some _ e)
  have hotB : L2H.HotC (blkH X s3 H3 scope ce fr) := hot
  have fk : ∀ {σ' : L2.St} {H' : Hp} {s' : Shared}, Inv (blkH X s3 H3 scope ce fr) [] σ' H' s' → (∀ b ∈ fr, H' b = none) → ∀ b ∈ fr, FpOk (blkH X s3 H3 scope ce fr) [] H' b := fun {σ' H' s'} J hn b hb =>
    ⟨hn b hb, (J.ok.exf b hb).1, J.ok.exfs b hb, .inl hb, fun x c e => (J.ok.exf b hb).2 x c e, fun p hp => pn3 b hb p (by simpa using hp)⟩
  have loop : codeAny (model X.prog X.w) X.A (.compLoop (.ListComp elt [⟨tg, iter, ifs, 0⟩] scope pos) 0 (.ref it) (.ref L) ce) (compPost (model X.prog X.w) X.A X.xe use Qf (.ref L) s3.heap.objs.size) s4 := by
    refine compLoop_any (fun n s' => ∃ i H', Inv (blkH X s3 H3 scope ce fr) [] (wipe σ (own.map (·.2))) H' s' ∧ tr i s'.heap ∧ (∀ b ∈ fr, H' b = none) ∧ W i n H') ?_ m0 ⟨0, H3, I4, t4, none3, w0⟩
    rintro n s5 ⟨i, H5, I5, t5, n5, w5⟩
    rcases turn i n H5 w5 with ⟨stop, qq⟩ | ⟨go, Nx, hNx, step⟩
    · refine thnF (T.done (blkH X s3 H3 scope ce fr) rfl rfl rfl hotB i [] s5 _ H5 (fun _ _ => False) I5 (fk I5 n5) t5 stop) fun r s6 ⟨hr, I6⟩ => ?_
      subst hr
      have I7 : Inv X pins σ H5 s6 := I3.call' (ch := fr) I6.os I6.base I6.hok I6.bare fun b hb =>
        have z := (fk3 b hb).1.2
        ⟨z.2.2.1, z.1, z.2.2.2.1, z.2.2.2.2⟩
      have nC : H5 s3.heap.objs.size = none := loc ▸ I6.free
      obtain ⟨m, hn, _⟩ := I6.loc
      have hn2 : s6.heap.Ns s3.heap.objs.size m := loc ▸ hn
      exact hEnd L s3.heap.objs.size s6 m H5 I7 qq hn2 (I3.fpOk (Nat.le_refl _) nC)
    · refine thnF (T.item (blkH X s3 H3 scope ce fr) rfl rfl rfl hotB i [] s5 _ H5 (fun _ _ => False) I5 (fk I5 n5) t5 go) fun r s6 ⟨u, hr, h6⟩ => ?_
      subst hr
      refine thnF h6 fun _ s7 ⟨x, H7, I7, r7, y7, t7, n7⟩ => ?_
      have P7 := I7.pinned (fk I7 n7) (T.obj _ _ t7)
      refine thnF (pg.run _ s7 _ H7 x u _ P7 r7 (step x H7 y7)) fun _ s8 ⟨σ8, H8, I8, hw8, q8⟩ => ?_
      refine thnF (pt.run _ s8 σ8 H8 _ I8 q8) fun b s9 ⟨H9, I9, q9⟩ => ?_
      have close : ∀ {s' : Shared} {H' : Hp}, Inv (blkH X s3 H3 scope ce fr) ([] ++ pinsAt fr s7.heap) σ8 H' s' → Nx H' →
          ∃ m, m < n ∧ ∃ i H', Inv (blkH X s3 H3 scope ce fr) [] (wipe σ (own.map (·.2))) H' s' ∧ tr i s'.heap ∧ (∀ b ∈ fr, H' b = none) ∧ W i m H' := fun {s' H'} J nx => by
        obtain ⟨m', hm, w'⟩ := hNx H' nx
        have kept : ∀ b ∈ fr, ∀ o, s7.heap.get? b = some o → s'.heap.get? b = some o ∧ H' b = none := fun b hb o e =>
          have z := J.pin (b, o) (List.mem_append_right _ (List.mem_append_right _ (mem_pinsAt hb e)))
          ⟨z.1, z.2.1⟩
        refine ⟨m', hm, i + 1, H', (J.unpinned (pins := [])).weak (by rw [← hw8, wipe_length]) (fun j v e => ?_), T.keep _ _ _ t7 fun b hb o e => (kept b hb o e).1, fun b hb => (T.obj _ _ t7 b hb).elim fun o e => (kept b hb o e.1).2, w'⟩
        rw [← hw8] at e
        exact (wipe_some e).1
      cases b with
      | false =>
        rw [if_neg Bool.false_ne_true] at q9
        exact iteF (close I9 q9)
      | true =>
        rw [if_pos rfl] at q9
        refine iteT (thnF (pe.run _ s9 σ8 H9 _ I9 q9) fun z s10 ⟨yv, H10, I10, r10, acc, hL10, hz10, nx⟩ => ?_)
        exact app_ok (X := blkH X s3 H3 scope ce fr) I10 hL10 hz10 r10 fun s11 I11 => close I11 nx
  exact codeAny_compStart_list loop (T.self X.A 0 _ _ _ t4 loop)
theorem pe_lcHot {pos : Pos} (hot : L2H.HotC X) (hN : X.N.Nodup) (hi : L2H.PIH X tg iter wi) (bo : BlkOk X.N X.env.scope scope own)
    (hg : ∀ (s : Shared) (H : Hp) (C : Addr) (cl : List (Str × Addr)) (fr : List Addr), PG (blkH X s H scope (compEnvC scope cl C X.env) fr) tg g)
    (ht : ∀ (s : Shared) (H : Hp) (C : Addr) (cl : List (Str × Addr)) (fr : List Addr), PTs (blkH X s H scope (compEnvC scope cl C X.env) fr) ifs tt)
    (he : ∀ (s : Shared) (H : Hp) (C : Addr) (cl : List (Str × Addr)) (fr : List Addr), PE (blkH X s H scope (compEnvC scope cl C X.env) fr) elt te)
    (hfold : ∀ x, foldedSetIterable iter X.env x = pure x := by intro _; rfl) : PE X (.ListComp elt [⟨tg, iter, ifs, 0⟩] scope pos) (tLc wi g tt te (own.map (·.2))) := ⟨fun pins s σ H Q I h => by
  rw [eval_ListComp]
  exact lc_hot hot hN I hi bo hg ht he hfold h fun L C s' m H' J q hn ⟨f0, f1, f2, f3, f4, f5⟩ => ⟨m, hn, fun h'' sb => ⟨.ref L, H', J.turned (t' := s'.toks) (fun b o hb e => (sb.2 b hb).trans e) f0 f1 f3 f4 f5, rfl, q⟩⟩⟩
theorem ps_setLcHot {i : Nat} {y : Str} {py pos spos : Pos} (hot : L2H.HotC X) (hN : X.N.Nodup) (hy : X.N[i]? = some y) (hyl : X.env.scope.names.lookup y = some .local)
    (hsw : swapsWith (.ListComp elt [⟨tg, iter, ifs, 0⟩] scope pos) (some (.Name y py)) spos.line X.env = pure true) (hi : L2H.PIH X tg iter wi) (bo : BlkOk X.N X.env.scope scope own)
    (hg : ∀ (s : Shared) (H : Hp) (C : Addr) (cl : List (Str × Addr)) (fr : List Addr), PG (blkH X s H scope (compEnvC scope cl C X.env) fr) tg g)
    (ht : ∀ (s : Shared) (H : Hp) (C : Addr) (cl : List (Str × Addr)) (fr : List Addr), PTs (blkH X s H scope (compEnvC scope cl C X.env) fr) ifs tt)
    (he : ∀ (s : Shared) (H : Hp) (C : Addr) (cl : List (Str × Addr)) (fr : List Addr), PE (blkH X s H scope (compEnvC scope cl C X.env) fr) elt te)
    (hfold : ∀ x, foldedSetIterable iter X.env x = pure x := by intro _; rfl) : PS X (.Assign [.Name y py] (.ListComp elt [⟨tg, iter, ifs, 0⟩] scope pos) spos) (tAsg (tLc wi g tt te (own.map (·.2))) (gName i)) := ⟨fun pins s σ H D I h => by
  rw [exec_Assign_Name_used _ _ _ _ hsw]
  have h : tLc wi g tt te (own.map (·.2)) σ H (fun x H1 => gName i x σ H1 D.nx) := h
  refine wpAny_bind (wpAny_standAt (wpAny_bind (wpAny_bind (thn (lc_hot (Qf := fun _ s' => SP X pins D .next s') (use := some (assign (.Name y py) X.env)) hot hN I hi bo hg ht he hfold h fun L C s' m H' J q hn f => ?_) fun _ s' hq => wpAny_pure (wpAny_pure hq)))))
  obtain ⟨f0, f1, f2, f3, f4, f5⟩ := f
  refine wpAny_assign_Name (store_ok2 (v := V.ref L) J hN hy (.inl hyl) rfl (fun s2 I2 st => ?_) (.inr hyl))
  obtain ⟨a, sb, ha⟩ := st
  have neq : C ≠ a := ha.elim (fun z => z ▸ f1) (fun z e => f4 y a z e.symm)
  exact ⟨m, hn.sameBut sb neq, fun h3 sb3 => ⟨_, H', I2.turned (t' := s2.toks) (fun b o hb e => (sb3.2 b hb).trans e) f0 f1 f3 f4 f5, q⟩⟩⟩
end
/-- X, in the block of a comprehension, an exception being handled -/
def IsBlkH (X : Cx) (scope : Scope) (Y : Cx) : Prop := ∃ (s : Shared) (H : Hp) (C : Addr) (cl : List (Str × Addr)) (fp : List Addr), Y = blkH X s H scope (compEnvC scope cl C X.env) fp
abbrev IDH (X : Cx) (tg iter : Expr) (ρ : En) (its : List PyData) (ok : En → Prop) (own : Option Nat) (ρ' : En) : Prop := L2H.PIH X tg iter (tI X.K ρ its ok own ρ')
section
variable {X : Cx} {W : WX} {e a b c tg iter elt : Expr} {es : List Expr} {p pos pos' : Pos} {ρ ρ' ρ1 ρ2 ρ3 : En} {x y z : PyData} {xs ys its : List PyData} {rest : List Stmt} {D : DE} {k : Bool} {i j : Nat} {w : Str} {ok : En → Prop} {scope : Scope} {own : List (Str × Nat)} {ifs : List Expr} {src : Option Nat} {α β : Type}
theorem PIH_imp {t t' : TI} (h : L2H.PIH X tg iter t) (i : ∀ σ H R, t' σ H R → t σ H R) : L2H.PIH X tg iter t' := ⟨fun pins s σ H R I q => h.run pins s σ H R I (i _ _ _ q)⟩
theorem idH_range0 {n : Nat} (hm : X.mg "range" = none) (h : PD X a ρ (.int (n : Int)) ρ') (h2 : n < 2 ^ 62) (hg : Gl X "range" := by rfl) (hs : starEach [a] X.env = [(false, eval a X.env)] := by rfl) : IDH X tg (.Call (.Name "range" p) [a] [] pos) ρ ((List.range n).map fun i : Nat => PyData.int (i : Int)) (fun _ => True) none ρ' :=
  PIH_imp (L2H.pi_range1H hg hm (ad_cons h ad_nil hs) hs) fun σ H R ⟨C, F, se, q⟩ => ⟨C, F, se, fun vs F1 H1 x1 e1 r1 => by
    cases r1 with
    | cons a1 a2 =>
      cases a2
      rw [rp_int a1]
      refine ⟨(n : Int), rfl, by omega, by omega, q _ F1 H1 x1 e1 ?_⟩
      rw [Int.toNat_natCast]
      have e2 : rgD 0 n = (List.range n).map fun i : Nat => PyData.int (i : Int) := by
        unfold rgD
        simp only [Int.zero_add]
      rw [← e2]
      exact wk_range⟩
theorem tsd_nil_ofH {Y : Cx} {scope : Scope} (h : IsBlkH X scope Y) : PTs Y [] (tT X.K ρ true ρ) := by
  obtain ⟨s, H, C, cl, fp, rfl⟩ := h
  exact tsd_nil
structure TurnOkH (X : Cx) (scope : Scope) (vs : List Nat) (tg elt : Expr) (ifs : List Expr) (d : PyData) (ρ ρ' : En) (T : Turn) : Prop where
  tg : ∀ Y, IsBlkH X scope Y → GV Y vs tg d (wipeE ρ vs) T.ρt
  ts : ∀ Y, IsBlkH X scope Y → PTs Y ifs (tT X.K T.ρt T.k T.ρm)
  el : ∀ Y, IsBlkH X scope Y → T.k = true → PE Y elt (tP X.K T.ρm T.y T.ρe)
  nx : Le (wipeE ρ' vs) (if T.k = true then T.ρe else T.ρm)
/-- what a list comprehension needs, whatever is done with it -/
structure LcOkH (X : Cx) (elt tg iter : Expr) (ifs : List Expr) (scope : Scope) (ρ : En) (ct : Ct) (ρ' : En) : Prop where
  ex : ∃ (own : List (Str × Nat)) (wi : TI) (g : TG) (tt : TT) (te : TE), L2H.PIH X tg iter wi ∧ BlkOk X.N X.env.scope scope own ∧ (∀ (s : Shared) (H : Hp) (C : Addr) (cl : List (Str × Addr)) (fp : List Addr), PG (blkH X s H scope (compEnvC scope cl C X.env) fp) tg g) ∧
    (∀ (s : Shared) (H : Hp) (C : Addr) (cl : List (Str × Addr)) (fp : List Addr), PTs (blkH X s H scope (compEnvC scope cl C X.env) fp) ifs tt) ∧ (∀ (s : Shared) (H : Hp) (C : Addr) (cl : List (Str × Addr)) (fp : List Addr), PE (blkH X s H scope (compEnvC scope cl C X.env) fp) elt te) ∧
    ∀ σ H Q, tN X.K ρ ct ρ' σ H Q → tLc wi g tt te (own.map (·.2)) σ H Q
/-- a list comprehension -/
theorem lc_okH (I : Nat → En) (T : Nat → Turn) (hb : BlkOk X.N X.env.scope scope own) (hi : IDH X tg iter ρ its ok src ρ1) (h0 : Le (wipeE (I 0) (own.map (·.2))) ρ1) (hsrc : ∀ j, src = some j → j ∉ own.map (·.2)) (hok : ∀ i, i ≤ its.length → ok (wipeE (I i) (own.map (·.2)))) (hlen : its.length < 100000)
    (hT : ∀ i d, its[i]? = some d → TurnOkH X scope (own.map (·.2)) tg elt ifs d (I i) (I (i + 1)) (T i)) :
    LcOkH X elt tg iter ifs scope ρ (.l (outs T its.length)) (restE ρ1 (I its.length) (own.map (·.2))) := by
  have hg := fun (s : Shared) (H : Hp) (C : Addr) (cl : List (Str × Addr)) (fp : List Addr) => PG_ex (t := fun (p : { p : Nat × PyData // its[p.1]? = some p.2 }) => tGv X.K (own.map (·.2)) p.1.2 (wipeE (I p.1.1) (own.map (·.2))) (T p.1.1).ρt) fun p => (hT p.1.1 p.1.2 p.2).tg _ ⟨s, H, C, cl, fp, rfl⟩
  have ht := fun (s : Shared) (H : Hp) (C : Addr) (cl : List (Str × Addr)) (fp : List Addr) => PTs_ex fun p : { p : Nat × PyData // its[p.1]? = some p.2 } => (hT p.1.1 p.1.2 p.2).ts _ ⟨s, H, C, cl, fp, rfl⟩
  have he := fun (s : Shared) (H : Hp) (C : Addr) (cl : List (Str × Addr)) (fp : List Addr) => PE_ex fun p : { p : Nat × PyData // its[p.1]? = some p.2 ∧ (T p.1).k = true } => (hT p.1.1 p.1.2 p.2.1).el _ ⟨s, H, C, cl, fp, rfl⟩ p.2.2
  refine ⟨own, _, _, _, _, hi, hb, hg, ht, he, fun σ H Q ⟨C, F, se, q⟩ => ⟨C, F, se, fun J F1 H1 x1 e1 wk => ?_⟩⟩
  exact lc_read (g := fun v σ H Q => ∃ p : { p : Nat × PyData // its[p.1]? = some p.2 }, tGv X.K (own.map (·.2)) p.1.2 (wipeE (I p.1.1) (own.map (·.2))) (T p.1.1).ρt v σ H Q)
    (tt := fun σ H Q => ∃ p : { p : Nat × PyData // its[p.1]? = some p.2 }, tT X.K (T p.1.1).ρt (T p.1.1).k (T p.1.1).ρm σ H Q)
    (te := fun σ H Q => ∃ p : { p : Nat × PyData // its[p.1]? = some p.2 ∧ (T p.1).k = true }, tP X.K (T p.1.1).ρm (T p.1.1).y (T p.1.1).ρe σ H Q) e1 wk h0 hsrc hok hlen (fun i d hd v σ H Q t => ⟨⟨(i, d), hd⟩, t⟩) (fun i d hd σ H Q t => ⟨⟨(i, d), hd⟩, t⟩) (fun i d hd k σ H Q t => ⟨⟨(i, d), hd, k⟩, t⟩) (fun i d hd => (hT i d hd).nx) fun p F2 H2 x2 e2 f2 c2 n2 o2 => q p F2 H2 (x1.trans x2) e2 f2 c2 n2 o2
theorem lcMH (xs : List α) (td : α → PyData) (fd : β → PyData) (keep : α → Bool) (val : α → β) {scope : Scope} {own : List (Str × Nat)} {ifs : List Expr} {src : Option Nat} {ok : En → Prop} (hb : BlkOk X.N X.env.scope scope own) (hi : IDH X tg iter ρ (xs.map td) ok src ρ1) (hlen : xs.length < 100000) (hsrc : ∀ j, src = some j → j ∉ own.map (·.2)) (hok : ok (wipeE ρ1 (own.map (·.2))))
    (hT : ∀ a, a ∈ xs → ∃ ρt ρe, (∀ Y, IsBlkH X scope Y → GV Y (own.map (·.2)) tg (td a) (wipeE ρ1 (own.map (·.2))) ρt) ∧ (∀ Y, IsBlkH X scope Y → PTs Y ifs (tT X.K ρt (keep a) ρt)) ∧ (∀ Y, IsBlkH X scope Y → keep a = true → PE Y elt (tP X.K ρt (fd (val a)) ρe)) ∧ Le (wipeE ρ1 (own.map (·.2))) ρt ∧ Le (wipeE ρ1 (own.map (·.2))) ρe): LcOkH X elt tg iter ifs scope ρ (.l (((xs.filter keep).map val).map fd)) (restE ρ1 ρ1 (own.map (·.2))) := by
  have cho : ∀ p : { a // a ∈ xs }, ∃ q : En × En, (∀ Y, IsBlkH X scope Y → GV Y (own.map (·.2)) tg (td p.1) (wipeE ρ1 (own.map (·.2))) q.1) ∧ (∀ Y, IsBlkH X scope Y → PTs Y ifs (tT X.K q.1 (keep p.1) q.1)) ∧ (∀ Y, IsBlkH X scope Y → keep p.1 = true → PE Y elt (tP X.K q.1 (fd (val p.1)) q.2)) ∧ Le (wipeE ρ1 (own.map (·.2))) q.1 ∧ Le (wipeE ρ1 (own.map (·.2))) q.2 := fun p => by
    obtain ⟨ρt, ρe, h⟩ := hT p.1 p.2
    exact ⟨(ρt, ρe), h⟩
  let T : Nat → Turn := fun i => if h : i < xs.length then
      let q := Classical.choose (cho ⟨xs[i], List.getElem_mem h⟩)
      ⟨q.1, q.1, keep xs[i], fd (val xs[i]), q.2⟩ else ⟨[], [], false, .none, []⟩
  have hT' : ∀ i d, (xs.map td)[i]? = some d → TurnOkH X scope (own.map (·.2)) tg elt ifs d ρ1 ρ1 (T i) := fun i d hd => by
    have hlt : i < xs.length := by
      by_cases z : i < xs.length
      · exact z
      · rw [List.getElem?_eq_none (by rw [List.length_map]; omega)] at hd; cases hd
    rw [List.getElem?_map, List.getElem?_eq_getElem hlt] at hd
    cases hd
    have sp := Classical.choose_spec (cho ⟨xs[i], List.getElem_mem hlt⟩)
    have eT : T i = ⟨(Classical.choose (cho ⟨xs[i], List.getElem_mem hlt⟩)).1, (Classical.choose (cho ⟨xs[i], List.getElem_mem hlt⟩)).1, keep xs[i], fd (val xs[i]), (Classical.choose (cho ⟨xs[i], List.getElem_mem hlt⟩)).2⟩ := dif_pos hlt
    rw [eT]
    obtain ⟨s1, s2, s3, s4, s5⟩ := sp
    refine ⟨s1, s2, s3, ?_⟩
    dsimp only
    split
    · exact s5
    · exact s4
  have h := lc_okH (its := xs.map td) (fun _ => ρ1) T hb hi (wipeE_le _ _) hsrc (fun _ _ => hok) (by rw [List.length_map]; exact hlen) hT'
  have eo : ∀ n, n ≤ xs.length → outs T n = (((xs.take n).filter keep).map val).map fd := by
    intro n
    induction n with
    | zero => intro _; simp [outs]
    | succ n ih =>
      intro hn
      have hlt : n < xs.length := by omega
      have eT : T n = ⟨(Classical.choose (cho ⟨xs[n], List.getElem_mem hlt⟩)).1, (Classical.choose (cho ⟨xs[n], List.getElem_mem hlt⟩)).1, keep xs[n], fd (val xs[n]), (Classical.choose (cho ⟨xs[n], List.getElem_mem hlt⟩)).2⟩ := dif_pos hlt
      unfold outs
      rw [eT, ih (by omega), take_succ_of (List.getElem?_eq_getElem hlt), List.filter_append]
      dsimp only
      by_cases q : keep xs[n] = true
      · rw [if_pos q, List.filter_cons_of_pos q, List.filter_nil, List.map_append, List.map_append]; rfl
      · rw [if_neg q, List.filter_cons_of_neg q, List.filter_nil, List.append_nil]
  rw [List.length_map, eo _ (Nat.le_refl _), List.take_length] at h
  exact h
theorem lcNH (xs : List α) (td : α → PyData) (fd : β → PyData) (val : α → β) {scope : Scope} {own : List (Str × Nat)} {src : Option Nat} {ok : En → Prop} (hb : BlkOk X.N X.env.scope scope own) (hi : IDH X tg iter ρ (xs.map td) ok src ρ1) (hlen : xs.length < 100000) (hsrc : ∀ j, src = some j → j ∉ own.map (·.2)) (hok : ok (wipeE ρ1 (own.map (·.2))))
    (hT : ∀ a, a ∈ xs → ∃ ρt ρe, (∀ Y, IsBlkH X scope Y → GV Y (own.map (·.2)) tg (td a) (wipeE ρ1 (own.map (·.2))) ρt) ∧ (∀ Y, IsBlkH X scope Y → PE Y elt (tP X.K ρt (fd (val a)) ρe)) ∧ Le (wipeE ρ1 (own.map (·.2))) ρt ∧ Le (wipeE ρ1 (own.map (·.2))) ρe): LcOkH X elt tg iter [] scope ρ (.l ((xs.map val).map fd)) (restE ρ1 ρ1 (own.map (·.2))) := by
  have h := lcMH (ifs := []) xs td fd (fun _ => true) val hb hi hlen hsrc hok (fun a ha => by
    obtain ⟨ρt, ρe, h1, h2, h3, h4⟩ := hT a ha
    exact ⟨ρt, ρe, h1, fun Y hY => tsd_nil_ofH hY, fun Y hY _ => h2 Y hY, h3, h4⟩)
  rw [List.filter_eq_self.mpr (fun _ _ => rfl)] at h
  exact h

end
end G

/-! GDeep: in a list of data, int or True, a suite without a name, extend. -/
namespace G
open PySem PySem.Spec PyProof.Rows L2
/-! flat data -/
theorem lay_map {α : Type} {f : α → PyData} {n : Nat} (h : ∀ a, PyData.canLay0 (f a) = true ∧ PyData.depth (f a) ≤ n) : ∀ xs : List α, PyData.canLayAll0 (xs.map f) = true ∧ PyData.depthAll (xs.map f) ≤ n
  | [] => ⟨rfl, Nat.zero_le _⟩
  | x :: xs => by
    have ih := lay_map h xs
    have hx := h x
    refine ⟨?_, ?_⟩
    · show (PyData.canLay0 (f x) && PyData.canLayAll0 (xs.map f)) = true
      rw [hx.1, ih.1]; rfl
    · show max (PyData.depth (f x)) (PyData.depthAll (xs.map f)) ≤ n
      omega
theorem flat_map {α : Type} {f : α → PyData} {n : Nat} (h : ∀ a, PyData.canLay0 (f a) = true ∧ PyData.depth (f a) ≤ n) (hn : n ≤ 60) (xs : List α) : flat (.list (xs.map f)) = true := by
  have l := lay_map h xs
  show (PyData.canLayAll0 (xs.map f) && decide (PyData.depth (.list (xs.map f)) ≤ 64)) = true
  rw [l.1, Bool.true_and, decide_eq_true_eq]
  simp only [PyData.depth]
  omega
theorem lay_int (i : Int) : PyData.canLay0 (.int i) = true ∧ PyData.depth (.int i) ≤ 1 := ⟨rfl, by simp [PyData.depth]⟩
theorem lay_t2 (x : Int × Int) : PyData.canLay0 (dT2 PyData.int PyData.int x) = true ∧ PyData.depth (dT2 PyData.int PyData.int x) ≤ 3 := ⟨rfl, by simp [dT2, PyData.depth, PyData.depthAll]⟩
theorem flat_t2 (x : Int × Int) : flat (dT2 PyData.int PyData.int x) = true := by
  have l := lay_t2 x
  show (PyData.canLay0 (dT2 PyData.int PyData.int x) && decide (PyData.depth (dT2 PyData.int PyData.int x) ≤ 64)) = true
  rw [l.1, Bool.true_and, decide_eq_true_eq]
  omega
theorem eqv_t2 (x y : Int × Int) : PyData.eqv (dT2 PyData.int PyData.int x) (dT2 PyData.int PyData.int y) = decide (x = y) := by
  obtain ⟨a, b⟩ := x
  obtain ⟨c, d⟩ := y
  show PyData.eqv (.tuple [.int a, .int b]) (.tuple [.int c, .int d]) = _
  simp only [PyData.eqv, PyData.eqvAll, Bool.and_true, Prod.mk.injEq]
  rw [Bool.eq_iff_iff]
  simp
section
variable {X : Cx} {W : WX} {e a b c o : Expr} {es : List Expr} {p pos pos' np : Pos} {ρ ρ' ρ1 ρ2 ρ3 : En} {x y z : PyData} {xs ys zs : List PyData} {st : Stmt} {rest A B body suite : List Stmt} {D : DE} {cls : Value} {fs : List (Str × PyData)} {w n : Str} {k : Bool} {i j : Int}
theorem pd_weak (h : PD X a ρ x ρ1) (hl : Le ρ2 ρ1) : PD X a ρ x ρ2 := PE_imp h fun σ H Q ⟨C, F, se, q⟩ => ⟨C, F, se, fun v F1 H1 x1 e1 r1 => q v F1 H1 x1 (e1.le hl) r1⟩
theorem Room.units65 {k : Nat} {A : Around} (r : Room k A) : A.units + 65 < cLine := by have := r.un; omega
theorem pd_inD {ds : List PyData} (hu : X.A.units + 65 < cLine) (hx : flat x = true) (hy : flat (.list ds) = true) (ha : PD X a ρ x ρ1) (hb : PD X b ρ1 (.list ds) ρ2) (hm : behindInMarks .In b = false := by rfl) : PD X (.Compare a [.In] [b] pos) ρ (.bool (ds.any fun z => PyData.eqv z x)) ρ2 :=
  pd_cmp (op_inD hu) (fun F H v w Q ex r1 r2 q => ⟨x, ds, dp_mono ex x (Rp.dp x r1 (SeqAt.canLay_of_shaped hx)), dp_mono ex _ (Rp.dp _ r2 (SeqAt.canLay_of_shaped hy)), hx, hy, q _ F H (.refl ex) (.bl _)⟩) ha hb hm
theorem pd_inT2 {v : Int × Int} {ns : List (Int × Int)} (hu : X.A.units + 65 < cLine) (ha : PD X a ρ (dT2 PyData.int PyData.int v) ρ1) (hb : PD X b ρ1 (dL (dT2 PyData.int PyData.int) ns) ρ2) (hm : behindInMarks .In b = false := by rfl) : PD X (.Compare a [.In] [b] pos) ρ (.bool (decide (v ∈ ns))) ρ2 := by
  have h := pd_inD (pos := pos) hu (flat_t2 v) (flat_map lay_t2 (by omega) ns) ha hb hm
  refine pd_cast (congrArg PyData.bool ?_) h
  rw [List.any_map]
  show (ns.any fun z => PyData.eqv (dT2 PyData.int PyData.int z) (dT2 PyData.int PyData.int v)) = _
  rw [Bool.eq_iff_iff, List.any_eq_true, decide_eq_true_eq]
  constructor
  · rintro ⟨z, hz, q⟩
    rw [eqv_t2, decide_eq_true_eq] at q
    exact q ▸ hz
  · intro hz
    exact ⟨v, hz, by rw [eqv_t2]; exact decide_eq_true rfl⟩
/-! an int, or True -/
def dV : Option Int → PyData
  | none => .bool true
  | some i => .int i
def vI : Option Int → Int
  | none => 1
  | some i => i
theorem op_add_bi : OpR X (binaryOp .Add) (fun x y H Q => ∃ k i, x = .bl k ∧ y = .int i ∧ Q (.int ((if k = true then (1 : Int) else 0) + i)) H) := by
  intro pins s σ H x y v u Q I rx ry ⟨k, i, e1, e2, q⟩
  subst e1 e2
  cases rx
  obtain ⟨t, rfl⟩ := ry
  exact PySem.IntBool.add_bool_int ⟨.int ((if k = true then (1 : Int) else 0) + i), H, I.tok _, ⟨_, rfl⟩, q⟩
theorem op_sub_bi : OpR X (binaryOp .Sub) (fun x y H Q => ∃ k i, x = .bl k ∧ y = .int i ∧ Q (.int ((if k = true then (1 : Int) else 0) - i)) H) := by
  intro pins s σ H x y v u Q I rx ry ⟨k, i, e1, e2, q⟩
  subst e1 e2
  cases rx
  obtain ⟨t, rfl⟩ := ry
  exact PySem.IntBool.sub_bool_int ⟨.int ((if k = true then (1 : Int) else 0) - i), H, I.tok _, ⟨_, rfl⟩, q⟩
theorem pd_addV {v : Option Int} (ha : PD X a ρ (dV v) ρ1) (hb : PD X b ρ1 (.int j) ρ2) : PD X (.BinOp a .Add b pos) ρ (.int (vI v + j)) ρ2 := by
  cases v with
  | some i => exact pd_add ha hb
  | none => exact pd_op op_add_bi (fun F H v w Q ex r1 r2 q => ⟨true, j, rp_bool r1, rp_int r2, q _ F H (.refl ex) (.int _)⟩) ha hb
theorem pd_subV {v : Option Int} (ha : PD X a ρ (dV v) ρ1) (hb : PD X b ρ1 (.int j) ρ2) : PD X (.BinOp a .Sub b pos) ρ (.int (vI v - j)) ρ2 := by
  cases v with
  | some i => exact pd_sub ha hb
  | none => exact pd_op op_sub_bi (fun F H v w Q ex r1 r2 q => ⟨true, j, rp_bool r1, rp_int r2, q _ F H (.refl ex) (.int _)⟩) ha hb
theorem pd_isiV {v : Option Int} (hm : X.mg ("isinstance" : Str) = none) (hc : PE X c (tC (.ty "bool"))) (ha : PD X a ρ (dV v) ρ1) (hg : Gl X "isinstance" := by rfl) (he : starEach [a, c] X.env = (false, eval a X.env) :: starEach [c] X.env := by rfl) (he2 : starEach [c] X.env = (false, eval c X.env) :: starEach [] X.env := by rfl)
    (hpl : (backTo pos (starEach [c] X.env)).any (·.1) = false := by rfl) : PD X (.Call (.Name "isinstance" p) [a, c] [] pos) ρ (.bool v.isNone) ρ1 := by
  cases v with
  | none => exact pd_isi (x := .bool true) (T := "bool") (k := true) rfl (show kitB "bool" "bool" = some true by decide +kernel) hm hc ha hg he he2 hpl
  | some i => exact pd_isi (x := .int i) (T := "bool") (k := false) rfl (show kitB "int" "bool" = some false by decide +kernel) hm hc ha hg he he2 hpl
theorem dV_get {v : Option Int} (h : v.isNone = false) : dV v = .int (v.getD 0) := by
  cases v with
  | none => cases h
  | some i => rfl
/-- x is not True, of a bool -/
theorem pd_notTrue {kk : Nat} {p' : Pos} (ha : PD X a ρ (.bool k) ρ1) : PD X (.Compare a [.IsNot] [.Constant (.bool true) kk p'] pos) ρ (.bool (!k)) ρ1 :=
  pd_cmp (op_notBl) (fun F H v w Q ex r1 r2 q => ⟨k, true, rp_bool r1, rp_bool r2, q _ F H (.refl ex) (by cases k <;> exact .bl _)⟩) ha pd_bl (nomark _)
theorem td_notTrue {kk : Nat} {p' : Pos} (ha : PD X a ρ (.bool k) ρ1) : TD X (.Compare a [.IsNot] [.Constant (.bool true) kk p'] pos) ρ (!k) ρ1 :=
  td_cmp (op_notBl) (fun F H v w Q ex r1 r2 q => ⟨k, true, rp_bool r1, rp_bool r2, q _ F H (.refl ex) (by cases k <;> exact .bl _)⟩) ha pd_bl (nomark _)
/-- xs.extend(new list) -/
theorem sd_extend (i : Nat) {o : Str} {p1 p2 p3 : Pos} {pa pb : Option Addr} (h0 : ρ[i]? = some (.o pa (.l ys))) (he : PN X e ρ (.l zs) ρ1) (h1 : ρ1[i]? = some (.o pb (.l xs))) (hl : xs.length + zs.length < 100000) (h : D.nx (ρ1.set i (.o pb (.l (xs ++ zs)))))
    (hN : X.N[i]? = some o := by rfl) (hv : Vis X.env.scope o := by first | exact Or.inl rfl | exact Or.inr (Or.inl rfl) | exact Or.inr (Or.inr rfl)) (hd : (o == ("__debug__" : Str)) = false := by decide) (hcd : (o == ("__classdict__" : Str)) = false := by decide)
    (hbase : attributeBase (.Name o p1) "extend" X.env (eval (.Name o p1) X.env) = eval (.Name o p1) X.env := by rfl)
    (hfew : ((backTo p3 (starEach [e] X.env)).all (fun x => !x.1) && (backToKw p3 (keywordEach [] X.env)).all (fun x => x.1.isSome)
      && decide ([e].length + ([] : List Keyword).length + (if ([] : List Keyword).isEmpty then 0 else 1) < 30)) = true := by rfl)
    (hline : (p2.endLine == p3.line) = true := by rfl) (hs : starEach [e] X.env = (false, eval e X.env) :: starEach [] X.env := by rfl)
    (hsw : swapsWith (.Call (.Attribute (.Name o p1) "extend" p2) [e] [] p3) none pos.line X.env = pure false := by rfl) :
    SD X W (.Expr (.Call (.Attribute (.Name o p1) "extend" p2) [e] [] p3) pos) ρ D := by
  refine PS_imp (ps_expr (pe_bm PySem.F.plainAttrs_list PySem.F.slot_list_extend PySem.F.type_list_extend mt_extend (pe_var hN hv hd hcd) (pa_cons he pa_nil hs) hbase hfew hline hs (by rfl)) hsw) fun E σ H ⟨C, F, se, cv⟩ => ?_
  obtain ⟨l, a1, _, ⟨vs, a2, a3⟩, a4⟩ := se.getO h0
  refine ⟨.ref l, a1, .inl ⟨rfl, vs, SqL.of a2⟩, C, F, se, fun q F1 H1 x1 e1 fq c0 no r1 => ?_⟩
  obtain ⟨l', b1, _, ⟨us, b2, b3⟩, b4⟩ := e1.getO h1
  rw [a1] at b1
  cases b1
  obtain ⟨ws, hq, rw'⟩ := r1
  refine ⟨l, q, us, ws, rfl, rfl, b2, hq, by rw [b3.length, rw'.length]; exact Nat.le_of_lt (line_lt hl), cv.nx _ F1 _ _ h ?_⟩
  exact e1.wr h1 a1 ⟨us ++ ws, upd_same, b3.append rw'⟩
theorem sd_extendM {α : Type} {f : α → PyData} {ns ms : List α} (i : Nat) {o : Str} {p1 p2 p3 : Pos} {pa pb : Option Addr} (h0 : ρ[i]? = some (.o pa (.l ys))) (he : PN X e ρ (.l (ms.map f)) ρ1) (h1 : ρ1[i]? = some (.o pb (.l (ns.map f)))) (hl : ns.length + ms.length < 100000) (h : D.nx (ρ1.set i (.o pb (.l ((ns ++ ms).map f)))))
    (hN : X.N[i]? = some o := by rfl) (hv : Vis X.env.scope o := by first | exact Or.inl rfl | exact Or.inr (Or.inl rfl) | exact Or.inr (Or.inr rfl)) (hd : (o == ("__debug__" : Str)) = false := by decide) (hcd : (o == ("__classdict__" : Str)) = false := by decide)
    (hbase : attributeBase (.Name o p1) "extend" X.env (eval (.Name o p1) X.env) = eval (.Name o p1) X.env := by rfl)
    (hfew : ((backTo p3 (starEach [e] X.env)).all (fun x => !x.1) && (backToKw p3 (keywordEach [] X.env)).all (fun x => x.1.isSome)
      && decide ([e].length + ([] : List Keyword).length + (if ([] : List Keyword).isEmpty then 0 else 1) < 30)) = true := by rfl)
    (hline : (p2.endLine == p3.line) = true := by rfl) (hs : starEach [e] X.env = (false, eval e X.env) :: starEach [] X.env := by rfl)
    (hsw : swapsWith (.Call (.Attribute (.Name o p1) "extend" p2) [e] [] p3) none pos.line X.env = pure false := by rfl) :
    SD X W (.Expr (.Call (.Attribute (.Name o p1) "extend" p2) [e] [] p3) pos) ρ D :=
  sd_extend i h0 he h1 (by rw [List.length_map, List.length_map]; exact hl) (by rw [← List.map_append]; exact h) hN hv hd hcd hbase hfew hline hs hsw
/-! ### try: body, except X: suite -/
theorem sd_try_one {c : Value} {b₀ : Stmt} (M : Value → List (Str × PyData) → En → Prop) (hs : X.stack = X.env :: X.outer) (hf : X.env.frame = some X.env.locals) (hc : Names X w c) (tk : L2N.Takes X W)
    (hb : ∀ (W : WX) (pn : List (Addr × Obj)) (xe : Value → Shared → Prop), L2N.Takes (X.tr pn xe) W → PassesOwn (model X.prog X.w) X.A X.env xe → BD (X.tr pn xe) W body ρ { D with ex := M })
    (hh : ∀ cls fs ρ', M cls fs ρ' → ∃ b, PySem.W.exmOne X.K cls c = some b ∧ (b = true → ∀ (a : Addr) (oe : Obj) (d : Option Addr) (pn : List (Addr × Obj)), L2N.Zn cls d oe → (∃ vs, oe.data = .fields vs) → BD (X.suite a ((a, oe) :: pn)) W0 (b₀ :: suite) ρ' { D with ex := fun _ _ _ => False }) ∧ (b = false → D.ex cls fs ρ')) :
    SD X W (.Try body [.ExceptHandler (some (.Name w np)) none (b₀ :: suite) pos'] [] [] pos) ρ D := by
  have hsu : ∀ (a : Addr) (oe : Obj) (cls : Value) (d : Option Addr) (pn : List (Addr × Obj)), L2N.Zn cls d oe → (∃ vs, oe.data = .fields vs) → PSs (X.suite a ((a, oe) :: pn)) (b₀ :: suite)
      (fun E σ H => ∃ q : { q : List (Str × PyData) × En // M cls q.1 q.2 ∧ PySem.W.exmOne X.K cls c = some true }, tD X.K W0 q.1.2 { D with ex := fun _ _ _ => False } E σ H) := fun a oe cls d pn hz hv => PSs_ex fun q => by
    obtain ⟨b, h1, h2, _⟩ := hh cls q.1.1 q.1.2 q.2.1
    rw [q.2.2] at h1
    cases h1
    exact h2 rfl a oe d pn hz hv
  refine PS_imp (L2N.ps_try_many hs hf tk (tb := fun W => tD X.K W ρ { D with ex := M }) (fun W pn xe t p => hb W pn xe t p) (.cons hc hsu .nil)) fun E σ H ⟨C, F, se, cv⟩ => ⟨C, F, se, ?_⟩
  refine ⟨cv.nx, cv.rt, fun cls fs ρ' d F' H' σ' m s r => ?_, cv.bk, cv.ct, cv.rn, cv.rq, cv.rz⟩
  obtain ⟨b, h1, h2, h3⟩ := hh cls fs ρ' m
  refine ⟨b, h1, fun hb1 a na => ?_, fun hb0 => cv.ex cls fs ρ' d F' H' σ' (h3 hb0) s r⟩
  subst hb1
  exact ⟨⟨(fs, ρ'), m, h1⟩, C, F', s, ⟨cv.nx, cv.rt, fun _ _ _ _ _ _ _ z => z.elim, cv.bk, cv.ct, cv.rn, cv.rq, cv.rz⟩⟩
/-- the exception that a suite handles is at hand -/
theorem hot_suite {a : Addr} {oe : Obj} {pn : List (Addr × Obj)} {cl : Value} {d : Option Addr} (hz : L2N.Zn cl d oe) (hf : ∃ vs, oe.data = .fields vs) : L2H.HotC (X.suite a ((a, oe) :: pn)) := by
  obtain ⟨vs, e⟩ := hf
  exact ⟨(a, oe), ⟨rfl, vs, e, hz.2.2 vs e⟩, List.mem_cons_self⟩
end
end G

/-! GPop: xs.pop(i). -/
namespace G
open PySem PySem.Spec PyProof.Rows L2
theorem rpa_erase {K : PySem.W.Frag} {F : Hp} : ∀ {us : List V} {xs : List PyData}, RpA K F us xs → ∀ k : Nat, RpA K F (us.eraseIdx k) (xs.eraseIdx k)
  | [], _, h, k => by cases h; exact .nil
  | u :: us, _, h, k => by
    cases h with
    | cons a b =>
      cases k with
      | zero => exact b
      | succ k => exact .cons a (rpa_erase b k)
theorem dV_nd (v : Option Int) : isDct (dV v) = false := by cases v <;> rfl
theorem dV_inj {a b : Option Int} (h : dV a = dV b) : a = b := by
  cases a with
  | none => cases b with
    | none => rfl
    | some j => exact PyData.noConfusion h
  | some i => cases b with
    | none => exact PyData.noConfusion h
    | some j => exact congrArg some (PyData.int.inj h)
theorem mapf_inj {α : Type} {f : α → PyData} (hf : ∀ a b, f a = f b → a = b) : ∀ {xs ys : List α}, xs.map f = ys.map f → xs = ys
  | [], [], _ => rfl
  | [], y :: ys, h => nomatch h
  | x :: xs, [], h => nomatch h
  | x :: xs, y :: ys, h => by
    rw [List.map_cons, List.map_cons] at h
    obtain ⟨a, b⟩ := List.cons.inj h
    rw [hf x y a, mapf_inj hf b]
theorem dL_inj {α : Type} {f : α → PyData} (hf : ∀ a b, f a = f b → a = b) {xs ys : List α} (h : dL f xs = dL f ys) : xs = ys := mapf_inj hf (PyData.list.inj h)
theorem t2_inj {α β : Type} {f : α → PyData} {g : β → PyData} (hf : ∀ a b, f a = f b → a = b) (hg : ∀ a b, g a = g b → a = b) (x y : α × β) (h : dT2 f g x = dT2 f g y) : x = y := by
  obtain ⟨a, b⟩ := x
  obtain ⟨c, d⟩ := y
  have h : PyData.tuple [f a, g b] = PyData.tuple [f c, g d] := h
  obtain ⟨h1, h2⟩ := List.cons.inj (PyData.tuple.inj h)
  rw [hf a c h1, hg b d (List.cons.inj h2).1]
theorem int_inj (a b : Int) (h : PyData.int a = PyData.int b) : a = b := PyData.int.inj h
theorem map_erase {α β : Type} (f : α → β) : ∀ (xs : List α) (k : Nat), (xs.map f).eraseIdx k = (xs.eraseIdx k).map f
  | [], k => rfl
  | x :: xs, 0 => rfl
  | x :: xs, k + 1 => by
    show f x :: (xs.map f).eraseIdx k = f x :: (xs.eraseIdx k).map f
    rw [map_erase f xs k]
section
variable {X : Cx} {W : WX} {e a b c : Expr} {es : List Expr} {pos : Pos} {ρ ρ' ρ1 ρ2 ρ3 : En} {α : Type} {f : α → PyData} {ns : List α} {ys : List PyData} {i : Int}
theorem pd_popAtM [Inhabited α] (j : Nat) {o : Str} {p1 p2 p3 : Pos} {pa pb : Option Addr} (h0 : ρ[j]? = some (.o pa (.l ys))) (ha : PD X a ρ (.int i) ρ1) (h1 : ρ1[j]? = some (.o pb (.l (ns.map f)))) (hi : 0 ≤ i ∧ i < ns.length) (hl : ns.length < 100000)
    (hN : X.N[j]? = some o := by rfl) (hv : Vis X.env.scope o := by first | exact Or.inl rfl | exact Or.inr (Or.inl rfl) | exact Or.inr (Or.inr rfl)) (hd : (o == ("__debug__" : Str)) = false := by decide) (hcd : (o == ("__classdict__" : Str)) = false := by decide)
    (hbase : attributeBase (.Name o p1) "pop" X.env (eval (.Name o p1) X.env) = eval (.Name o p1) X.env := by rfl)
    (hfew : ((backTo p3 (starEach [a] X.env)).all (fun x => !x.1) && (backToKw p3 (keywordEach [] X.env)).all (fun x => x.1.isSome)
      && decide ([a].length + ([] : List Keyword).length + (if ([] : List Keyword).isEmpty then 0 else 1) < 30)) = true := by rfl)
    (hline : (p2.endLine == p3.line) = true := by rfl) (hs : starEach [a] X.env = (false, eval a X.env) :: starEach [] X.env := by rfl) :
    PD X (.Call (.Attribute (.Name o p1) "pop" p2) [a] [] p3) ρ (f (gI ns i)) (ρ1.set j (.o pb (.l ((ns.eraseIdx i.toNat).map f)))) := by
  refine PE_imp (pe_bm PySem.F.plainAttrs_list PySem.F.slot_list_pop PySem.F.type_list_pop mt_popAt (pe_var hN hv hd hcd) (pa_cons ha pa_nil hs) hbase hfew hline hs (by rfl)) fun σ H Q ⟨C, F, se, q⟩ => ?_
  obtain ⟨l, a1, _, ⟨vs, a2, a3⟩, a4⟩ := se.getO h0
  refine ⟨.ref l, a1, .inl ⟨rfl, vs, SqL.of a2⟩, C, F, se, fun v F1 H1 x1 e1 r1 => ?_⟩
  obtain ⟨l', b1, _, ⟨us, b2, b3⟩, b4⟩ := e1.getO h1
  rw [a1] at b1
  cases b1
  rw [rp_int r1]
  have hk : i.toNat < us.length := by rw [b3.length, List.length_map]; omega
  obtain ⟨d, hd2, rd⟩ := b3.getV (List.getElem?_eq_getElem hk)
  have ed : d = f (gI ns i) := by
    rw [List.getElem?_map] at hd2
    have hlt : i.toNat < ns.length := by omega
    rw [List.getElem?_eq_getElem hlt] at hd2
    cases hd2
    unfold gI
    rw [if_neg (by omega), getElem!_pos ns _ hlt]
  subst ed
  have hx : seqIndex? i us.length = some i.toNat := by
    unfold seqIndex?
    rw [if_neg (show ¬ i < 0 by omega), if_pos (by simp; omega)]
  refine ⟨l, us, i, i.toNat, _, rfl, rfl, b2, by omega, by omega, hx, List.getElem?_eq_getElem hk, q _ F1 _ x1 (e1.wr h1 a1 ⟨us.eraseIdx i.toNat, upd_same, ?_⟩) rd⟩
  rw [← map_erase]
  exact rpa_erase b3 _
theorem sd_setLcDH {xs : List PyData} {tg iter elt : Expr} {ifs : List Expr} {scope : Scope} {w : Str} {D : DE} {pos' spos : Pos} (i : Nat) (hot : L2H.HotC X) (h : LcOkH X elt tg iter ifs scope ρ (.l xs) ρ') (h2 : D.nx (ρ'.set i (.d (.list xs)))) (hN : X.N.Nodup) (hy : X.N[i]? = some w := by rfl) (hyl : X.env.scope.names.lookup w = some .local := by rfl)
    (hsw : swapsWith (.ListComp elt [⟨tg, iter, ifs, 0⟩] scope pos) (some (.Name w pos')) spos.line X.env = pure true := by rfl) (hs : ∀ x, foldedSetIterable iter X.env x = pure x := by intro _; rfl) : SD X W (.Assign [.Name w pos'] (.ListComp elt [⟨tg, iter, ifs, 0⟩] scope pos) spos) ρ D := by
  obtain ⟨own, wi, g, tt, te, hi, hb, hg, ht, he, q⟩ := h.ex
  refine PS_imp (ps_setLcHot hot hN hy hyl hsw hi hb hg ht he hs) fun E σ H ⟨C, F, se, cv⟩ => q σ H _ ⟨C, F, se, fun p F1 H1 x1 e1 fp h0 no r1 => ?_⟩
  obtain ⟨vs, hp, r⟩ := r1
  exact cv.nx _ (upd F1 p (.lst vs)) H1 _ h2 ((e1.frz fp hp h0 no).setD (.lst (SqL.of upd_same) (r.mono (.new fp))))
end
end G

/-! GRev: list(reversed(xs)). -/
namespace RT
open PySem PySem.Spec PyProof.Rows
section
variable {prog : Program} {w : World} {A : Around} {E : Value → Shared → Prop} {s : Shared}
theorem extend_revL {R : Result → Shared → Prop} {it l S : Addr} {c0 : Nat} {items : Array Value} {res : Value} (hh : A.in1.handled = none) (hit : s.heap.IsRevIter it l ((items.size : Int) - 1)) (hl : s.heap.IsList l items) (hne : l ≠ it) (hn : items.size ≤ sizeLine)
    (hSi : S ≠ it) (hSl : S ≠ l) (hS : s.heap.get? S = some { cls := .type "list", dict := none, data := .seq #[] c0, slots := #[] })
    (hR : ∀ (h' : Heap) (tk : Nat) (acc : Array Value) (c' : Nat), (∀ b o, b ≠ S → b ≠ it → s.heap.get? b = some o → h'.get? b = some o) → h'.get? S = some { cls := .type "list", dict := none, data := .seq acc c', slots := #[] } →
      ItemsOf (fun i v => items[items.size - 1 - i]? = some v) acc items.size → R (.ok (.ret res)) { s with heap := h', toks := tk }) :
    wpAny (model prog w) A.in1 (Builtin.List.listExtendWith (.ref S) (.ref it) res)
      (fun fin s' => match fin with | .done f => R (.ok f) s' | .again c' => c'.quiet = true ∧ codeAny (model prog w) A c' R s') (fun e s' => R (.error e) s') s := by
  have W := (Walks.listRev (prog := prog) (w := w) (A := A.in1) hh it l hne items).toS
  have hSf : S ∉ [it, l] := by simp only [List.mem_cons, List.not_mem_nil, or_false, not_or]; exact ⟨hSi, hSl⟩
  have ty : s.TypeIs (.ref it) "list_reverseiterator" := hit.typeIs
  have other : Builtin.List.listSameRef (.ref S) (.ref it) = false := by simp [Builtin.List.listSameRef, hSi]
  unfold Builtin.List.listExtendWith
  refine wpAny_bind (wpAny_typeOf ty ?_)
  rw [if_neg (by rw [other]; decide)]
  refine wpAny_bind (wpAny_pyIter_revIter hit (wpAny_bind (wpAny_holding ?_)))
  unfold Builtin.List.listLengthHint
  refine wpAny_bind (wpAny_specialOf ty nolen_lri ?_)
  show wpAny _ A.in1 (specialOf (Value.ref it) (Str.ofString "__length_hint__") >>= _) _ _ _
  refine wpAny_bind (wpAny_specialOf ty hint_lri ?_)
  generalize hid : ("list_reverseiterator.__length_hint__" : String) = id0
  wp_delta
  rw [show splitId id0 = some ("list_reverseiterator", "__length_hint__") from by subst hid; decide +kernel]
  subst hid
  refine wpAny_bind (wpAny_isInstance (b := true) ty (by rw [isSubtype_type]; kernel_rfl) (wpAny_pure ?_))
  rw [if_neg (by decide)]
  have z : ((items.size : Nat) : Int) - 1 - ((0 : Nat) : Int) = (items.size : Int) - 1 := by omega
  refine wpAny_pure ⟨plainId_quiet F.plain_extend_loop _, codeAny_extend_loopS W hn S hSf res items.size 0 _ #[] c0 rfl (Nat.zero_le _) ⟨Nat.zero_le _, by rw [z]; exact hit, hl⟩ hS (ItemsOf.nil _) fun s' acc' c' hm hS' hacc => ?_⟩
  rw [Moved.eq_with hm]
  refine hR s'.heap s'.toks acc' c' (fun b o h1 h2 e => hm.heap b o (fun hmem => ?_) e) hS' hacc
  rcases List.mem_cons.mp hmem with q | q
  · exact h1 q
  · exact h2 (List.mem_singleton.mp q)
theorem call_list_revIt {Q : Value → Shared → Prop} {it l : Addr} {items : Array Value} (hh : A.handled = none) (hit : s.heap.IsRevIter it l ((items.size : Int) - 1)) (hl : s.heap.IsList l items) (hne : l ≠ it) (hn : items.size ≤ sizeLine)
    (hQ : ∀ (h' : Heap) (tk : Nat) (acc : Array Value) (c' : Nat), (∀ b o, b ≠ it → s.heap.get? b = some o → h'.get? b = some o) → h'.get? s.heap.objs.size = some { cls := .type "list", dict := none, data := .seq acc c', slots := #[] } →
      ItemsOf (fun i v => items[items.size - 1 - i]? = some v) acc items.size → Q (.ref s.heap.objs.size) { s with heap := h', toks := tk }) :
    wpAny (model prog w) A (call (.type "list") [.ref it]) Q E s := by
  obtain ⟨oi, hoi, _⟩ := id hit
  obtain ⟨ol, hol, _⟩ := id hl
  have hSi : s.heap.objs.size ≠ it := Nat.ne_of_gt (Heap.lt_size hoi)
  have hSl : s.heap.objs.size ≠ l := Nat.ne_of_gt (Heap.lt_size hol)
  refine callType_codes (Q₁ := fun obj s₁ => obj = .ref s.heap.objs.size ∧ s₁ = { s with heap := s.heap.push { cls := .type "list", data := .seq #[] } }) F.called_list (F.typeCall_list_1 _) F.entry_list_init (code_list_new _ ⟨rfl, rfl⟩) fun obj s₁ h₁ => ?_
  obtain ⟨rfl, rfl⟩ := h₁
  have new : (s.heap.push { cls := .type "list", data := .seq #[] }).get? s.heap.objs.size = some { cls := .type "list", data := .seq #[] } := Heap.get?_push_size _ rfl
  refine ⟨⟨_, new, rfl⟩, F.args_list_init_2 _ _, ?_⟩
  show wpAny _ _ (do let old ← Builtin.List.listItems (.ref s.heap.objs.size); Builtin.List.listUpdate (.ref s.heap.objs.size) (fun _ => #[]); letGo old.toList.reverse; Builtin.List.listExtendWith (.ref s.heap.objs.size) (.ref it) .none) _ _ _
  refine wpAny_bind ?_
  unfold Builtin.List.listItems
  refine wpAny_bind (wpAny_seqItems new rfl (wpAny_pure ?_))
  refine wpAny_bind (wpAny_updateSeq new rfl ?_)
  have new2 := Heap.get?_update_self (Obj.mapSeq (fun _ => (#[] : Array Value))) new rfl
  have oth : ∀ b o, s.heap.get? b = some o → ((s.heap.push { cls := .type "list", data := .seq #[] }).update s.heap.objs.size (Obj.mapSeq (fun _ => (#[] : Array Value)))).get? b = some o :=
    fun b o e => (Heap.get?_update_other _ _ (Nat.ne_of_gt (Heap.lt_size e))).trans (Heap.get?_push_of_some _ e)
  refine wpAny_bind (wpAny_letGo ?_)
  refine extend_revL (A := A.in1) hh (hit.at fun o e => oth _ _ e) ?_ hne hn hSi hSl new2 fun h' tk acc c' hk hS' hacc => ⟨rfl, hQ h' tk acc c' (fun b o hb e => hk b o (Nat.ne_of_lt (Heap.lt_size e)) hb (oth b o e)) hS' hacc⟩
  obtain ⟨o2, h2, h3⟩ := id hl
  exact ⟨o2, oth _ _ h2, h3⟩
end
end RT
namespace G
open PySem PySem.Spec PyProof.Rows L2 RT
def tLstRev (K : PySem.W.Frag) (te : TE) : TE := fun σ H Q => te σ H fun v H1 => ∃ (a : Addr) (xs : List V), v = .ref a ∧ SqL K H1 a xs ∧ ∀ q, H1 q = none → Q (.ref q) (upd H1 q (.lst xs.reverse))
section
variable {X : Cx} {e : Expr} {te : TE} {p p2 pos pos2 : Pos} {ρ ρ1 : En} {α : Type} {f : α → PyData} {ns : List α}
theorem pe_lstRev (hc : X.calm = true) (hg : Gl X "list") (hm : X.mg "list" = none) (hg2 : Gl X "reversed") (hm2 : X.mg "reversed" = none) (he : PE X e te) (hs : starEach [e] X.env = (false, eval e X.env) :: starEach [] X.env := by rfl)
    (hs2 : starEach [.Call (.Name "reversed" p2) [e] [] pos2] X.env = (false, eval (.Call (.Name "reversed" p2) [e] [] pos2) X.env) :: starEach [] X.env := by rfl) : PE X (.Call (.Name "list" p) [.Call (.Name "reversed" p2) [e] [] pos2] [] pos) (tLstRev X.K te) := ⟨fun pins s σ H Q I h => by
  refine Call_ (ld_blt I hg hm boot_list (PyProof.Rows.callWith_type1 (args_cons (Call_ (ld_blt I hg2 hm2 PyProof.Rows.boot_reversed (PyProof.Rows.callWith_type1 (args_cons (thn (he.run pins s σ H _ I h) fun u s1 hx => args_nil ?_) hs) hs rfl))) hs2) hs2))
  obtain ⟨v, H1, I1, r1, a, xs, ev, hq, q⟩ := hx
  subst ev
  obtain rfl : u = Value.ref a := r1
  obtain ⟨its, rv, pl, hz⟩ := I1.list hq
  refine call_reversed_list pl.isList (args_nil ?_)
  have keep : ∀ b o, s1.heap.get? b = some o → (s1.heap.push (revObj a ((its.toArray.size : Int) - 1))).get? b = some o := fun b o e => Heap.get?_push_of_some _ e
  obtain ⟨ol, hol, _⟩ := id pl.isList
  have hne : a ≠ s1.heap.objs.size := Nat.ne_of_lt (Heap.lt_size hol)
  have hn : its.toArray.size ≤ sizeLine := by rw [List.size_toArray, ← rv.length]; exact hz
  refine call_list_revIt (s := { s1 with heap := s1.heap.push (revObj a ((its.toArray.size : Int) - 1)) }) (I1.ok.hd hc) ⟨_, Heap.get?_push_size _ rfl, rfl, rfl⟩ (pl.isList.push _) hne hn fun h' tk acc c' hk e' hi => ?_
  have le : s1.heap.objs.size ≤ (s1.heap.push (revObj a ((its.toArray.size : Int) - 1))).objs.size := by rw [Heap.size_push]; exact Nat.le_succ _
  refine ⟨.ref (s1.heap.push (revObj a ((its.toArray.size : Int) - 1))).objs.size, upd H1 (s1.heap.push (revObj a ((its.toArray.size : Int) - 1))).objs.size (.lst xs.reverse), I1.laid (t' := tk) (fun b o e => hk b o (Nat.ne_of_lt (Heap.lt_size e)) (keep b o e)) le (show ObjOk X.prog X.w _ h' _ (.lst xs.reverse) from ⟨by rw [List.length_reverse]; exact hz, acc.toList, c', vals_rev rv hi, by rw [Array.toArray_toList]; exact e'⟩), rfl, q _ (I1.hok.fresh le)⟩⟩
/-- list(reversed(xs)), xs data -/
theorem pn_lstRev (hc : X.calm = true) (hm : X.mg ("list" : Str) = none) (hm2 : X.mg ("reversed" : Str) = none) (h : PD X e ρ (.list (ns.map f)) ρ1) (hg : Gl X "list" := by rfl) (hg2 : Gl X "reversed" := by rfl) (hs : starEach [e] X.env = (false, eval e X.env) :: starEach [] X.env := by rfl)
    (hs2 : starEach [.Call (.Name "reversed" p2) [e] [] pos2] X.env = (false, eval (.Call (.Name "reversed" p2) [e] [] pos2) X.env) :: starEach [] X.env := by rfl) : PN X (.Call (.Name "list" p) [.Call (.Name "reversed" p2) [e] [] pos2] [] pos) ρ (.l (ns.reverse.map f)) ρ1 :=
  PE_imp (pe_lstRev hc hg hm hg2 hm2 h hs hs2) fun σ H Q ⟨C, F, se, q⟩ => ⟨C, F, se, fun v F1 H1 x1 e1 r1 => by
    cases r1 with
    | @lst a vs _ l rr =>
      refine ⟨a, vs, rfl, e1.fr.ext.l l, fun p hp => ?_⟩
      obtain ⟨h1, h2, h3, h4⟩ := e1.lay (o := .lst vs.reverse) hp
      refine q p F1 _ x1 h1 h2 h3 h4 ⟨_, upd_same, ?_⟩
      rw [List.map_reverse]
      exact rr.reverse⟩
end
end G

/-! GRise: an exception that leaves a list comprehension. -/
namespace G
open PySem PySem.Spec PyProof.Rows L2
/-- a frame is noted by its place alone -/
theorem note_same {env env' : Env} (h : env.frame = env'.frame) (e : Value) : noteFrame e env = noteFrame e env' := by
  unfold noteFrame PySem.frameOf
  rw [h]
/-- noted by another frame: noted again -/
theorem look_over {M : Model} {A : Around} {E : Value → Shared → Prop} {s : Shared} {Z : Obj → Prop} {B : Heap} {env : Env} {outer : List Env} {L a C : Addr} {Q : Unit → Shared → Prop} (sZ : PXN.Steady1 Z) (fr : A.frames = some (env :: outer)) (hf : env.frame = some L) (ne : C ≠ L)
    (x : HandSPX.HeldZ B (env :: outer) a Z C s.heap) (q : ∀ h', HandSPX.HeldZ B (env :: outer) a Z L h' → s.heap.UpToSlots h' → Q () { s with heap := h' }) : wpAny M A (noteFrame (.ref a) env) Q E s := by
  obtain ⟨kb, nb, fl, oe, vs, T, oT, ts, ea, za, da, v1, nT, Ta, eT, dT, t3⟩ := x
  unfold noteFrame
  simp only [hf]
  refine wpAny_bind (wpAny_field ea da v1 ?_)
  rw [if_pos (by simp)]
  refine wpAny_bind (wpAny_field eT dT t3 ?_)
  have nr : ¬ ((rawInt C == rawInt L) = true) := by
    intro z
    have z2 : rawInt C = rawInt L := eq_of_beq z
    unfold rawInt at z2
    injection z2 with z3
    exact ne (Int.ofNat.inj z3)
  rw [if_neg nr]
  refine wpAny_bind (wpAny_setField eT dT (Array.getElem?_eq_some_iff.mp t3).1 ?_)
  have oth : ∀ b, b ≠ T → (s.heap.update T (Obj.mapFields (·.setIfInBounds 3 Value.none))).get? b = s.heap.get? b := fun b hb => Heap.get?_update_other _ _ fun z => hb z.symm
  have nrec : ∀ b o, s.heap.get? b = some o → (∀ us, o.data ≠ .fields us) → b ≠ T := fun b o e n z => by
    subst z
    rw [eT] at e
    cases e
    exact n ts dT
  refine PXN.wpAny_entryZ sZ fr (fl.of_keeps fun b o e n => ⟨o, (oth b (nrec b o e n)).trans e, rfl⟩) hf ((oth a fun z => Ta z.symm).trans ea)
    (fun b o e => (oth b fun z => by subst z; rw [e] at nT; cases nT).trans (kb b o e)) nb da (Array.getElem?_eq_some_iff.mp v1).1 za fun h' n => ?_
  obtain ⟨y1, y2, y3, y4⟩ := n
  exact q h' ⟨y1, nb, y2, y3⟩ fun b o e n => y4 b o ((oth b (nrec b o e n)).trans e) n
/-- behind the block: how it ends, its environment known -/
def riseEnd (M : Model) (A : Around) (E : Value → Shared → Prop) (use : Option (Value → Sem Unit)) (Q : Value → Shared → Prop) (acc : Value) (ce : Env) : Result → Shared → Prop
  | .ok f, s' => compPost M A E use Q acc ce.locals (.ok f) s'
  | .error x, s' => ∃ m, s'.heap.Ns ce.locals m ∧ ∀ h', Heap.SameBut ce.locals s'.heap h' → wpAny M A (passOn "comprehension.variables-let-go" x ce : Sem Value) (fun _ _ => False) E { s' with heap := h' }
section
variable {M : Model} {A : Around} {E : Value → Shared → Prop} {s : Shared} {env : Env}
theorem rise_comp {e : Expr} {scope : Scope} {pos : Pos} {newAcc first : Sem Value} {g : Comprehension} {gs : List Comprehension} {cl : List (Str × Addr)} {use : Option (Value → Sem Unit)} {Q : Value → Shared → Prop}
    (c1 : clausesOf e = g :: gs) (c2 : ∀ x, foldedSetIterable g.iter env x = pure x) (c3 : closureFor scope env = pure cl) (c4 : scope.kind = .function) (c5 : ∀ x ∈ scope.names, x.2 = .local → scope.names.lookup x.1 = some .local)
    (h : wpAny M A first (fun x s₁ => wpAny M A (pyIter x) (fun it s₂ => wpAny M A newAcc (fun acc s₃ => wpAny M A (newFunctionEnv scope env.globals cl [] env.qual none .none (some env)) (fun cenv s₄ =>
      codeAny M A (.compStart e 0 it acc { cenv with scope := relabel scope env }) (riseEnd M A E use Q acc { cenv with scope := relabel scope env }) s₄) E s₃) E s₂) E s₁) E s) :
    wpAny M A (comprehension e scope env pos newAcc false first use) Q E s := by
  unfold comprehension
  rw [c3, c1]
  refine wpAny_bind (wpAny_mono h (fun x t1 k1 => wpAny_bind (wpAny_standAt (wpAny_bind (wpAny_of_eq (c2 x) (wpAny_bind (wpAny_holding (wpAny_mono k1 (fun it t2 k2 =>
    wpAny_standIf (wpAny_bind (wpAny_mono k2 (fun acc t3 k3 => wpAny_bind (wpAny_pure (wpAny_bind (wpAny_mono k3 (fun cenv t4 k4 => ?_) fun _ _ z => z)))) fun _ _ z => z))) fun _ _ z => z))))))) fun _ _ z => z)
  dsimp only
  have loc : ∀ x ∈ (scope.names.filter fun x => (x.2 == .local || x.2 == .cell) && x.1 != (".0" : Str)).reverse, x.2 = .local → Env.kindOf { cenv with scope := relabel scope env } x.1 = some .local :=
    fun x hx hl => lookup_relabel_local (c5 x (List.mem_filter.mp (List.mem_reverse.mp hx)).1 hl)
  have loc' : ∀ x ∈ (scope.names.filter fun x => (x.2 == .local || x.2 == .cell) && x.1 != (".0" : Str)).reverse.drop 1 ++ (scope.names.filter fun x => (x.2 == .local || x.2 == .cell) && x.1 != (".0" : Str)).reverse.take 1, x.2 = .local → Env.kindOf { cenv with scope := relabel scope env } x.1 = some .local :=
    fun x hx hl => (List.mem_append.mp hx).elim (fun z => loc x (List.mem_of_mem_drop z) hl) fun z => loc x (List.mem_of_mem_take z) hl
  refine wpAny_holding (wpAny_bind (wpAny_attempt (wpAny_holding (wpAny_run (codeAny_mono k4 fun r t5 hr => ?_)))))
  cases r with
  | error x =>
    obtain ⟨m, hn, hr⟩ := hr
    exact wpAny_bind (wpAny_holding (wpAny_comp_letGo (cenv := { cenv with scope := relabel scope env }) c4 _ t5 m loc hn fun h' m' _ hs' => wpAny_mono (hr h' hs') (fun _ _ f => f.elim) fun _ _ z => z))
  | ok f =>
    cases use with
    | none =>
      obtain ⟨m, hn, hr⟩ := hr
      exact wpAny_bind (wpAny_holding (wpAny_comp_letGo (cenv := { cenv with scope := relabel scope env }) c4 _ t5 m loc hn fun h' m' _ hs' => wpAny_pure (hr h' hs')))
    | some u =>
      refine wpAny_bind (wpAny_rule (wpAny_bind (wpAny_holding (wpAny_mono hr (fun _ t6 hr' => ?_) fun _ _ z => z))))
      obtain ⟨m, hn, hr'⟩ := hr'
      exact wpAny_bind (wpAny_comp_letGo (cenv := { cenv with scope := relabel scope env }) c4 _ t6 m loc' hn fun h' m' _ hs' => wpAny_pure (hr' h' hs'))
end
/-- frames, over another ground and heap -/
theorem funs_at {h h' B B' : Heap} : ∀ {l : List Env}, h.FunFrames B l → (∀ b ∈ frs l, ∀ o, h.get? b = some o → h'.get? b = some o) → (∀ b ∈ frs l, B'.get? b = none) → h'.FunFrames B' l
  | [], _, _, _ => trivial
  | e :: l, x, k, n => by
    obtain ⟨x1, ⟨L, o, x2, _, x3, x4⟩, x5⟩ := x
    have m0 : L ∈ frs (e :: l) := List.mem_filterMap.mpr ⟨e, List.mem_cons_self, x2⟩
    have ms : ∀ b ∈ frs l, b ∈ frs (e :: l) := fun b hb => by
      obtain ⟨f, hf, z⟩ := List.mem_filterMap.mp hb
      exact List.mem_filterMap.mpr ⟨f, List.mem_cons_of_mem _ hf, z⟩
    exact ⟨x1, ⟨L, o, x2, n L m0, k L m0 o x3, x4⟩, funs_at x5 (fun b hb => k b (ms b hb)) fun b hb => n b (ms b hb)⟩
/-- the block's context, an exception let out -/
abbrev blkR (X : Cx) (s : Shared) (H : Hp) (scope : Scope) (ce : Env) (fr : List Addr) (xe : Value → Shared → Prop) : Cx := (X.blk s H scope ce fr).tr [] xe
section
variable {X : Cx} {W : WX} {pins : List (Addr × Obj)} {σ : L2.St} {H : Hp} {s s' : Shared} {scope : Scope} {ce : Env} {fr : List Addr}
/-- an exception in the block's air goes on in the def's -/
theorem rise_take {xe : Value → Shared → Prop} {use : Option (Value → Sem Unit)} {Qf : Value → Shared → Prop} {acc u : Value} (I : Inv X pins σ H s) (hs : X.stack = X.env :: X.outer) (hf : X.env.frame = some X.env.locals) (tk : L2N.Takes X W)
    (cf : ce.frame = X.env.frame) (cl : ce.locals = s.heap.objs.size) (fk : ∀ b ∈ fr, FpOk X pins H b ∧ b < s.heap.objs.size) (x : L2N.XE (blkR X s H scope ce fr xe) (fun cls d _ H' => W cls d σ H') u s') :
    notedBy (model X.prog X.w) X.A ce (fun e s2 => riseEnd (model X.prog X.w) X.A X.xe use Qf acc ce (.error e) s2) u s' := by
  obtain ⟨a, B, sI, pb, σb, Hb, cls, d, rfl, J, nb, up, sky, na, os, ag, w⟩ := x
  have frm : X.A.frames = some (X.env :: X.outer) := by rw [I.ok.frames, hs]
  have lt : X.env.locals < s.heap.objs.size := I.lt
  have notF : ∀ b ∈ frs X.stack, b ≠ ce.locals := fun b hb z => by
    obtain ⟨_, o, e, _⟩ := I.stack.mem hb
    have := Heap.lt_size e
    rw [z, cl] at this
    exact Nat.lt_irrefl _ this
  have freeC : Hb ce.locals = none := J.free
  have sky' : Sky B (X.env :: X.outer) a (L2N.Zn cls d) ce.locals s'.heap := by rw [← hs]; exact sky
  obtain ⟨mC, nsC, _⟩ := J.loc
  obtain ⟨oC, es, ep, eC, dC, kC, fC⟩ := nsC
  have eC : sI.heap.get? ce.locals = some oC := eC
  have nfC : ∀ vs, oC.data ≠ .fields vs := fun vs z => by rw [dC] at z; cases z
  have bC : B.get? ce.locals = some oC := nb _ _ eC fun z => notF _ z rfl
  have aC : ∀ {b}, B.get? b = none → b ≠ ce.locals := fun {b} e z => by rw [z, bC] at e; cases e
  show wpAny (model X.prog X.w) X.A (noteFrame (.ref a) ce) (fun _ s2 => riseEnd (model X.prog X.w) X.A X.xe use Qf acc ce (.error (.ref a)) s2) _ s'
  rw [note_same cf]
  have go : ∀ h2, HandSPX.HeldZ B (X.env :: X.outer) a (L2N.Zn cls d) X.env.locals h2 → s'.heap.UpToSlots h2 → riseEnd (model X.prog X.w) X.A X.xe use Qf acc ce (.error (.ref a)) { s' with heap := h2 } := by
    intro h2 hh up2
    obtain ⟨sl1, e1⟩ := up _ _ eC nfC
    obtain ⟨sl2, e2⟩ := up2 _ _ e1 nfC
    refine ⟨mC, ⟨_, es, ep, e2, dC, kC, fC⟩, fun h3 sb => ?_⟩
    obtain ⟨B', b1, b2⟩ := restrict B fun b => decide (b ≠ ce.locals)
    obtain ⟨G, g1, g2⟩ := restrict sI.heap fun b => decide (b ≠ ce.locals)
    have bs : ∀ b o, B'.get? b = some o → b ≠ ce.locals ∧ B.get? b = some o := fun b o e => by
      by_cases q : b = ce.locals
      · rw [b2 b (decide_eq_false (fun z => z q))] at e; cases e
      · exact ⟨q, (b1 b (decide_eq_true q)).symm.trans e⟩
    have gs : ∀ b o, G.get? b = some o → b ≠ ce.locals ∧ sI.heap.get? b = some o := fun b o e => by
      by_cases q : b = ce.locals
      · rw [g2 b (decide_eq_false (fun z => z q))] at e; cases e
      · exact ⟨q, (g1 b (decide_eq_true q)).symm.trans e⟩
    have bn : ∀ b, B.get? b = none → B'.get? b = none := fun b e => (b1 b (decide_eq_true (aC e))).trans e
    have gk : ∀ b o, b ≠ ce.locals → sI.heap.get? b = some o → G.get? b = some o := fun b o q e => (g1 b (decide_eq_true q)).trans e
    have sb2 : ∀ b o, b ≠ ce.locals → h2.get? b = some o → h3.get? b = some o := fun b o q e => (sb.2 b q).trans e
    obtain ⟨y1, y2, y3, oe, vs, T, oT, ts, ea, za, da, v1, nT, Ta, eT, dT, t3⟩ := hh
    have nfr : ∀ b ∈ frs (X.env :: X.outer), b ≠ ce.locals := fun b hb => notF b (by rw [hs]; exact hb)
    have hh3 : HandSPX.HeldZ B' (X.env :: X.outer) a (L2N.Zn cls d) X.env.locals h3 :=
      ⟨fun b o e => sb2 b o (bs b o e).1 (y1 b o (bs b o e).2), bn a y2, funs_at y3 (fun b hb o e => sb2 b o (nfr b hb) e) (fun b hb => bn b (y3.mem hb).1),
        oe, vs, T, oT, ts, sb2 a oe (aC y2) ea, za, da, v1, bn T nT, Ta, sb2 T oT (aC nT) eT, dT, t3⟩
    have IG : Inv X pins σ Hb { sI with heap := G } := by
      refine I.call' (ch := fr) J.os ⟨?_, ?_, J.base.free, ?_, J.base.tups, J.base.frzs, J.base.tbls⟩ (fun b o q => (J.hok b o q).stay (fun c v hc r => gk c v (fun z => ?_) r) (fun _ r => r) fun _ _ r => r) J.bare
        fun b hb => ⟨(fk b hb).1.2.2.2.1, (fk b hb).1.2.1, (fk b hb).1.2.2.2.2.1, (fk b hb).1.2.2.2.2.2⟩
      · exact fun b o e n f x => gk b o (fun z => by have := Heap.lt_size e; rw [z, cl] at this; exact Nat.lt_irrefl _ this) (J.base.keep b o e n f x)
      · intro b o e n f x
        obtain ⟨sl, z⟩ := J.base.slot b o e n f x
        exact ⟨sl, gk b _ (fun z => by have := Heap.lt_size e; rw [z, cl] at this; exact Nat.lt_irrefl _ this) z⟩
      · intro b o e x
        obtain ⟨o', z⟩ := J.base.there b o e x
        exact ⟨o', gk b _ (fun z => by have := Heap.lt_size e; rw [z, cl] at this; exact Nat.lt_irrefl _ this) z⟩
      · subst z
        rcases hc with hc | hc
        · rw [← hc, freeC] at q; cases q
        · rw [freeC] at hc; cases hc
    unfold PySem.passOn
    refine wpAny_bind (wpAny_field hh3.2.2.2.choose_spec.choose_spec.choose_spec.choose_spec.choose_spec.1 hh3.2.2.2.choose_spec.choose_spec.choose_spec.choose_spec.choose_spec.2.2.1 hh3.2.2.2.choose_spec.choose_spec.choose_spec.choose_spec.choose_spec.2.2.2.1 ?_)
    rw [if_neg (by simp)]
    have fin : wpAny (model X.prog X.w) X.A (setFlight (.ref a) ce.frame) (fun _ s4 => wpAny (model X.prog X.w) X.A (throw (.ref a) : Sem Value) (fun _ _ => False) X.xe s4) X.xe { s' with heap := h3 } := by
      rw [cf, hf]
      refine HandSPX.setFlight_onZ hh3 fun h4 hh4 up4 => wpAny_throw (tk _ _ ?_)
      refine ⟨a, B', { sI with heap := G }, pins, σ, Hb, cls, d, rfl, IG, fun b o e q => (b1 b (decide_eq_true (gs b o e).1)).trans (nb b o (gs b o e).2 q), fun b o e n => ?_, .inr (.inr (by rw [hs]; exact hh4)), na, os, ag, w⟩
      obtain ⟨q, e0⟩ := gs b o e
      obtain ⟨s1, e1⟩ := up b o e0 n
      obtain ⟨s2, e2⟩ := up2 b _ e1 n
      obtain ⟨s3, e3⟩ := up4 b _ (sb2 b _ q e2) n
      exact ⟨s3, e3⟩
    first
    | exact wpAny_bind fin
    | exact wpAny_bind (wpAny_pure (wpAny_bind fin))
  rcases sky' with ⟨k1, k2, k3, oe, vs, k4, k5, k6, k7⟩ | k | k
  · exact PXN.look_newZ L2N.Zn.steady frm k3 hf k4 k1 k2 k6 k7 k5 go
  · exact PXN.looks_onZ L2N.Zn.steady frm hf k go
  · exact look_over L2N.Zn.steady frm hf (fun z => Nat.lt_irrefl _ (by rw [← z, cl] at lt; exact lt)) k go
end
end G

/-! GRise2: a list comprehension whose element may raise. -/
namespace G
open PySem PySem.Spec PyProof.Rows L2
section
variable {X : Cx} {W : WX} {pins : List (Addr × Obj)} {σ : L2.St} {H : Hp} {s : Shared} {scope : Scope} {own : List (Str × Nat)} {elt tg iter : Expr} {ifs : List Expr} {wi : TI} {g : TG} {tt : TT} {te : WX → TE}
theorem lc_rise {Q : VK} {pos pos' : Pos} {use : Option (Value → Sem Unit)} {Qf : Value → Shared → Prop} (hc : X.calm = true) (hs : X.stack = X.env :: X.outer) (hf : X.env.frame = some X.env.locals) (tk : L2N.Takes X W) (hN : X.N.Nodup) (I : Inv X pins σ H s) (hi : PI X tg iter wi) (bo : BlkOk X.N X.env.scope scope own)
    (hg : ∀ (s : Shared) (H : Hp) (C : Addr) (cl : List (Str × Addr)) (fr : List Addr) (xe : Value → Shared → Prop), PG (blkR X s H scope (compEnvC scope cl C X.env) fr xe) tg g)
    (ht : ∀ (s : Shared) (H : Hp) (C : Addr) (cl : List (Str × Addr)) (fr : List Addr) (xe : Value → Shared → Prop), PTs (blkR X s H scope (compEnvC scope cl C X.env) fr xe) ifs tt)
    (he : ∀ (s : Shared) (H : Hp) (C : Addr) (cl : List (Str × Addr)) (fr : List Addr) (xe : Value → Shared → Prop) (Wb : WX), L2N.Takes (blkR X s H scope (compEnvC scope cl C X.env) fr xe) Wb → PE (blkR X s H scope (compEnvC scope cl C X.env) fr xe) elt (te Wb))
    (hfold : ∀ x, foldedSetIterable iter X.env x = pure x) (h : tLc wi g tt (te fun cls d _ H' => W cls d σ H') (own.map (·.2)) σ H Q)
    (hEnd : ∀ L C s' m H', Inv X pins σ H' s' → Q (.ref L) H' → s'.heap.Ns C m → FpOk X pins H' C → compPost (model X.prog X.w) X.A X.xe use Qf (.ref L) C (.ok .next) s') :
    wpAny (model X.prog X.w) X.A (comprehension (.ListComp elt [⟨tg, iter, ifs, 0⟩] scope pos) scope X.env pos' (newList []) false (eval iter X.env) use) Qf X.xe s := by
  have frees : ∀ y ∈ scope.names, y.2 = .free → ∃ c, X.env.cells.lookup y.1 = some c := fun y hy e => (bo.free y hy e).elim (fun k => I.ok.has _ (.inl k)) (fun k => I.ok.has _ (.inr k))
  refine rise_comp (use := use) rfl hfold (closure_ok frees) bo.kind (fun y hy e => (bo.uniq y hy).trans (congrArg some e))
    (thn (hi.run pins s σ H _ I h) fun xv s1 hx => thn hx fun iv s2 ⟨it, fr, tr, J, H2, ev, I2, T, t2, fk2, q⟩ => ?_)
  subst ev
  refine wpAny_newObj_type (newEnv_comp ?_) (by show 0 ≤ sizeLine; decide)
  generalize eL : s2.heap.objs.size = L
  have fresh : H2 L = none := I2.hok.fresh (Nat.le_of_eq eL)
  obtain ⟨Wk, ⟨m0, w0⟩, turn⟩ := q L fresh
  generalize e3 : ({ s2 with heap := s2.heap.push { cls := .type "list", data := .seq ([] : List Value).toArray } } : Shared) = s3
  have hp3 : s3.heap = s2.heap.push { cls := .type "list", data := .seq ([] : List Value).toArray } := by rw [← e3]
  have I3 : Inv X pins σ (upd H2 L (.lst [])) s3 := by
    rw [← e3]
    exact I2.laid (t' := s2.toks) (fun b o e => Heap.get?_push_of_some _ e) (Nat.le_of_eq eL) ⟨Nat.zero_le _, [], 0, .nil, by rw [← eL]; exact Heap.get?_push_size _ rfl⟩
  have small : ∀ b ∈ fr, b < s2.heap.objs.size := fun b hb => (T.obj _ _ t2 b hb).elim fun o e => Heap.lt_size e.1
  have fk3 : ∀ b ∈ fr, FpOk X pins (upd H2 L (.lst [])) b ∧ b < s3.heap.objs.size := fun b hb =>
    ⟨⟨by rw [upd_ne (by rw [← eL]; exact Nat.ne_of_lt (small b hb))]; exact (fk2 b hb).1, (fk2 b hb).2⟩, by rw [hp3, Heap.size_push]; exact Nat.lt_succ_of_lt (small b hb)⟩
  have t3 : tr 0 s3.heap := T.keep _ _ _ t2 fun b _ o e => by rw [hp3]; exact Heap.get?_push_of_some _ e
  have I40 := block_start I3 bo hN fk3
  generalize ece : compEnvC scope (cellsFrom (s3.heap.objs.size + 1) scope.names (cloFrom X.env.cells scope.names [])) s3.heap.objs.size X.env = ce at I40
  have loc : ce.locals = s3.heap.objs.size := by rw [← ece]; rfl
  have cf : ce.frame = X.env.frame := by rw [← ece]; rfl
  generalize exe : (notedBy (model X.prog X.w) X.A ce fun e s2 => riseEnd (model X.prog X.w) X.A X.xe use Qf (.ref L) ce (.error e) s2) = xe
  have I4 : Inv (blkR X s3 (upd H2 L (.lst [])) scope ce fr xe) [] (wipe σ (own.map (·.2))) (upd H2 L (.lst [])) { s3 with heap := pushCells (s3.heap.push { cls := .type "dict", data := .dict #[] }) scope.names } := I40.toTry xe
  have pg := hg s3 (upd H2 L (.lst [])) s3.heap.objs.size (cellsFrom (s3.heap.objs.size + 1) scope.names (cloFrom X.env.cells scope.names [])) fr xe
  have pt := ht s3 (upd H2 L (.lst [])) s3.heap.objs.size (cellsFrom (s3.heap.objs.size + 1) scope.names (cloFrom X.env.cells scope.names [])) fr xe
  have tkb : L2N.Takes (blkR X s3 (upd H2 L (.lst [])) scope ce fr xe) (fun cls d _ H' => W cls d σ H') := fun u s' x => by
    show xe u s'
    rw [← exe]
    exact rise_take I3 hs hf tk cf loc fk3 x
  have pe := he s3 (upd H2 L (.lst [])) s3.heap.objs.size (cellsFrom (s3.heap.objs.size + 1) scope.names (cloFrom X.env.cells scope.names [])) fr xe (fun cls d _ H' => W cls d σ H')
  rw [ece] at pg pt pe
  have pe := pe tkb
  show codeAny _ _ (.compStart (.ListComp elt [⟨tg, iter, ifs, 0⟩] scope pos) 0 (.ref it) (.ref L) (compEnvC scope (cellsFrom (s3.heap.objs.size + 1) scope.names (cloFrom X.env.cells scope.names [])) s3.heap.objs.size X.env)) (riseEnd (model X.prog X.w) X.A X.xe use Qf (.ref L) (compEnvC scope (cellsFrom (s3.heap.objs.size + 1) scope.names (cloFrom X.env.cells scope.names [])) s3.heap.objs.size X.env)) { s3 with heap := pushCells (s3.heap.push { cls := .type "dict", data := .dict #[] }) scope.names }
  rw [ece]
  have none3 : ∀ b ∈ fr, (upd H2 L (.lst [])) b = none := fun b hb => (fk3 b hb).1.1
  generalize eH : upd H2 L (.lst []) = H3 at I3 I4 pg pt pe w0 none3 fk3
  generalize e4 : ({ s3 with heap := pushCells (s3.heap.push { cls := .type "dict", data := .dict #[] }) scope.names } : Shared) = s4 at I4 ⊢
  have t4 : tr 0 s4.heap := T.keep _ _ _ t3 fun b _ o e => by rw [← e4]; exact pushCells_keeps _ _ _ _ (Heap.get?_push_of_some _ e)
  have fk : ∀ {σ' : L2.St} {H' : Hp} {s' : Shared}, Inv (blkR X s3 H3 scope ce fr xe) [] σ' H' s' → (∀ b ∈ fr, H' b = none) → ∀ b ∈ fr, FpOk (blkR X s3 H3 scope ce fr xe) [] H' b := fun {σ' H' s'} J hn b hb =>
    ⟨hn b hb, (J.ok.exf b hb).1, J.ok.exfs b hb, .inl hb, fun x c e => (J.ok.exf b hb).2 x c e, fun p hp => absurd (show p ∈ ([] : List (Addr × Obj)) ++ [] from hp) (by simp)⟩
  have xeq : ∀ u s', xe u s' → notedBy (model X.prog X.w) X.A ce (fun e s2 => riseEnd (model X.prog X.w) X.A X.xe use Qf (.ref L) ce (.error e) s2) u s' := fun u s' z => by rw [exe]; exact z
  have loop : codeAny (model X.prog X.w) X.A (.compLoop (.ListComp elt [⟨tg, iter, ifs, 0⟩] scope pos) 0 (.ref it) (.ref L) ce) (riseEnd (model X.prog X.w) X.A X.xe use Qf (.ref L) ce) s4 := by
    refine compLoop_any (fun n s' => ∃ i H', Inv (blkR X s3 H3 scope ce fr xe) [] (wipe σ (own.map (·.2))) H' s' ∧ tr i s'.heap ∧ (∀ b ∈ fr, H' b = none) ∧ Wk i n H') ?_ m0 ⟨0, H3, I4, t4, none3, w0⟩
    rintro n s5 ⟨i, H5, I5, t5, n5, w5⟩
    rcases turn i n H5 w5 with ⟨stop, qq⟩ | ⟨go, Nx, hNx, step⟩
    · refine thnF (T.done (blkR X s3 H3 scope ce fr xe) rfl rfl rfl hc i [] s5 _ H5 (fun _ _ => False) I5 (fk I5 n5) t5 stop) fun r s6 ⟨hr, I6⟩ => ?_
      subst hr
      have I7 : Inv X pins σ H5 s6 := I3.call' (ch := fr) I6.os I6.base I6.hok I6.bare fun b hb =>
        have z := (fk3 b hb).1.2
        ⟨z.2.2.1, z.1, z.2.2.2.1, z.2.2.2.2⟩
      have nC : H5 s3.heap.objs.size = none := loc ▸ I6.free
      obtain ⟨m, hn, _⟩ := I6.loc
      have hn2 : s6.heap.Ns ce.locals m := hn
      show compPost (model X.prog X.w) X.A X.xe use Qf (.ref L) ce.locals (.ok .next) s6
      rw [loc] at hn2 ⊢
      exact hEnd L s3.heap.objs.size s6 m H5 I7 qq hn2 (I3.fpOk (Nat.le_refl _) nC)
    · refine thnF (T.item (blkR X s3 H3 scope ce fr xe) rfl rfl rfl hc i [] s5 _ H5 (fun _ _ => False) I5 (fk I5 n5) t5 go) fun r s6 ⟨u, hr, h6⟩ => ?_
      subst hr
      refine thnF h6 fun _ s7 ⟨x, H7, I7, r7, y7, t7, n7⟩ => ?_
      have P7 := I7.pinned (fk I7 n7) (T.obj _ _ t7)
      refine wpAny_mono (pg.run _ s7 _ H7 x u _ P7 r7 (step x H7 y7)) (fun _ s8 ⟨σ8, H8, I8, hw8, q8⟩ => ?_) xeq
      refine wpAny_mono (pt.run _ s8 σ8 H8 _ I8 q8) (fun b s9 ⟨H9, I9, q9⟩ => ?_) xeq
      have close : ∀ {s' : Shared} {H' : Hp}, Inv (blkR X s3 H3 scope ce fr xe) ([] ++ pinsAt fr s7.heap) σ8 H' s' → Nx H' →
          ∃ m, m < n ∧ ∃ i H', Inv (blkR X s3 H3 scope ce fr xe) [] (wipe σ (own.map (·.2))) H' s' ∧ tr i s'.heap ∧ (∀ b ∈ fr, H' b = none) ∧ Wk i m H' := fun {s' H'} J nx => by
        obtain ⟨m', hm, w'⟩ := hNx H' nx
        have kept : ∀ b ∈ fr, ∀ o, s7.heap.get? b = some o → s'.heap.get? b = some o ∧ H' b = none := fun b hb o e =>
          have z := J.pin (b, o) (List.mem_append_right _ (List.mem_append_right _ (mem_pinsAt hb e)))
          ⟨z.1, z.2.1⟩
        refine ⟨m', hm, i + 1, H', (J.unpinned (pins := [])).weak (by rw [← hw8, wipe_length]) (fun j v e => ?_), T.keep _ _ _ t7 fun b hb o e => (kept b hb o e).1, fun b hb => (T.obj _ _ t7 b hb).elim fun o e => (kept b hb o e.1).2, w'⟩
        rw [← hw8] at e
        exact (wipe_some e).1
      cases b with
      | false =>
        rw [if_neg Bool.false_ne_true] at q9
        exact iteF (close I9 q9)
      | true =>
        rw [if_pos rfl] at q9
        refine iteT (wpAny_mono (pe.run _ s9 σ8 H9 _ I9 q9) (fun z s10 ⟨yv, H10, I10, r10, acc, hL10, hz10, nx⟩ => ?_) xeq)
        exact app_ok (X := blkR X s3 H3 scope ce fr xe) I10 hL10 hz10 r10 fun s11 I11 => close I11 nx
  exact codeAny_compStart_list loop (T.self X.A 0 _ _ _ t4 loop)
theorem pe_lcR {pos : Pos} (hc : X.calm = true) (hs : X.stack = X.env :: X.outer) (hf : X.env.frame = some X.env.locals) (tk : L2N.Takes X W) (hN : X.N.Nodup) (hi : PI X tg iter wi) (bo : BlkOk X.N X.env.scope scope own)
    (hg : ∀ (s : Shared) (H : Hp) (C : Addr) (cl : List (Str × Addr)) (fr : List Addr) (xe : Value → Shared → Prop), PG (blkR X s H scope (compEnvC scope cl C X.env) fr xe) tg g)
    (ht : ∀ (s : Shared) (H : Hp) (C : Addr) (cl : List (Str × Addr)) (fr : List Addr) (xe : Value → Shared → Prop), PTs (blkR X s H scope (compEnvC scope cl C X.env) fr xe) ifs tt)
    (he : ∀ (s : Shared) (H : Hp) (C : Addr) (cl : List (Str × Addr)) (fr : List Addr) (xe : Value → Shared → Prop) (Wb : WX), L2N.Takes (blkR X s H scope (compEnvC scope cl C X.env) fr xe) Wb → PE (blkR X s H scope (compEnvC scope cl C X.env) fr xe) elt (te Wb))
    (hfold : ∀ x, foldedSetIterable iter X.env x = pure x := by intro _; rfl) : PE X (.ListComp elt [⟨tg, iter, ifs, 0⟩] scope pos) (fun σ H Q => tLc wi g tt (te fun cls d _ H' => W cls d σ H') (own.map (·.2)) σ H Q) := ⟨fun pins s σ H Q I h => by
  rw [eval_ListComp]
  exact lc_rise hc hs hf tk hN I hi bo hg ht he hfold h fun L C s' m H' J q hn ⟨f0, f1, f2, f3, f4, f5⟩ => ⟨m, hn, fun h'' sb => ⟨.ref L, H', J.turned (t' := s'.toks) (fun b o hb e => (sb.2 b hb).trans e) f0 f1 f3 f4 f5, rfl, q⟩⟩⟩
end
end G

/-! GRise3: in words of data: the j-th element of a list comprehension raises. -/
namespace G
open PySem PySem.Spec PyProof.Rows L2
def IsBlkR (X : Cx) (scope : Scope) (Y : Cx) : Prop := ∃ (s : Shared) (H : Hp) (C : Addr) (cl : List (Str × Addr)) (fp : List Addr) (xe : Value → Shared → Prop), Y = blkR X s H scope (compEnvC scope cl C X.env) fp xe
section
variable {X : Cx} {W : WX} {tg elt iter : Expr} {pos : Pos} {ρ ρ1 : En} {its : List PyData} {ok : En → Prop} {src : Option Nat} {scope : Scope} {own : List (Str × Nat)} {cls : Value} {fs : List (Str × PyData)} {j : Nat} {ρt ρe : Nat → En} {y : Nat → PyData}
theorem PE_exR {ι : Type} {Y : Cx} {t : ι → TE} (h : ∀ i, PE Y elt (t i)) : PE Y elt (fun σ H Q => ∃ i, t i σ H Q) := ⟨fun pins s σ H Q I ⟨i, q⟩ => (h i).run pins s σ H Q I q⟩
theorem px_lc (hs : X.stack = X.env :: X.outer) (hf : X.env.frame = some X.env.locals) (tk : L2N.Takes X W) (hN : X.N.Nodup) (hb : BlkOk X.N X.env.scope scope own) (hi : ID X tg iter ρ its ok src ρ1) (hsrc : ∀ k, src = some k → k ∉ own.map (·.2)) (hok : ok (wipeE ρ1 (own.map (·.2)))) (hlen : its.length < 100000) (hj : j < its.length)
    (hT : ∀ i d, i ≤ j → its[i]? = some d → ∀ Y, IsBlkR X scope Y → GV Y (own.map (·.2)) tg d (wipeE ρ1 (own.map (·.2))) (ρt i))
    (hE : ∀ i d, i < j → its[i]? = some d → ∀ Y, IsBlkR X scope Y → PE Y elt (tP X.K (ρt i) (y i) (ρe i)))
    (hX : ∀ d, its[j]? = some d → ∀ (Y : Cx) (Wb : WX), IsBlkR X scope Y → L2N.Takes Y Wb → PE Y elt (tX X.K Wb (ρt j) cls fs (ρe j)))
    (hL : ∀ i, i ≤ j → Le (wipeE ρ1 (own.map (·.2))) (ρe i)) (hc : X.calm = true := by rfl) (hfold : ∀ x, foldedSetIterable iter X.env x = pure x := by intro _; rfl) : PX X W (.ListComp elt [⟨tg, iter, [], 0⟩] scope pos) ρ cls fs (restE ρ1 ρ1 (own.map (·.2))) := by
  obtain ⟨dj, hdj⟩ : ∃ d, its[j]? = some d := ⟨its[j], List.getElem?_eq_getElem hj⟩
  let te : WX → TE := fun Wb σ H Q => ∃ p : Option { p : Nat × PyData // p.1 < j ∧ its[p.1]? = some p.2 }, (match p with
    | some p => tP X.K (ρt p.1.1) (y p.1.1) (ρe p.1.1)
    | none => tX X.K Wb (ρt j) cls fs (ρe j)) σ H Q
  have hg := fun (s : Shared) (H : Hp) (C : Addr) (cl : List (Str × Addr)) (fp : List Addr) (xe : Value → Shared → Prop) => PG_ex (t := fun (p : { p : Nat × PyData // p.1 ≤ j ∧ its[p.1]? = some p.2 }) => tGv X.K (own.map (·.2)) p.1.2 (wipeE ρ1 (own.map (·.2))) (ρt p.1.1)) fun p => hT p.1.1 p.1.2 p.2.1 p.2.2 _ ⟨s, H, C, cl, fp, xe, rfl⟩
  have he : ∀ (s : Shared) (H : Hp) (C : Addr) (cl : List (Str × Addr)) (fp : List Addr) (xe : Value → Shared → Prop) (Wb : WX), L2N.Takes (blkR X s H scope (compEnvC scope cl C X.env) fp xe) Wb → PE (blkR X s H scope (compEnvC scope cl C X.env) fp xe) elt (te Wb) := fun s H C cl fp xe Wb tkb => PE_exR fun p => by
    cases p with
    | some p => exact hE p.1.1 p.1.2 p.2.1 p.2.2 _ ⟨s, H, C, cl, fp, xe, rfl⟩
    | none => exact hX dj hdj _ Wb ⟨s, H, C, cl, fp, xe, rfl⟩ tkb
  refine PE_imp (pe_lcR (te := te) hc hs hf tk hN hi hb hg (fun _ _ _ _ _ _ => pts_nil) he hfold) fun σ H Q ⟨C, F, se, q⟩ => ⟨C, F, se, fun J F1 H1 x1 e1 wk => ?_⟩
  generalize evs : own.map (·.2) = vs at *
  intro Dl hD
  have w0 := (e1.le (wipeE_le ρ1 vs)).wiped
  have c0 : C.H0 Dl = none := e1.fr.there Dl hD
  have fD : F1 Dl = none := e1.fr.ext.none hD
  let St (i : Nat) (H' : Hp) : Prop := ∃ F' acc, Ex F1 F' ∧ SE X.K C F' H' (L2.wipe σ vs) (wipeE ρ1 vs) ∧ F' Dl = none ∧ H' Dl = some (.lst acc) ∧ (∀ j, ¬ Owns (L2.wipe σ vs) (wipeE ρ1 vs) j Dl) ∧ acc.length = i
  refine ⟨fun i m H => m = j - i ∧ i ≤ j ∧ St i H, ⟨j, by simp, Nat.zero_le _, F1, [], .refl _, w0.grow (.side w0.fr.ext hD), fD, upd_same, not_owns_new w0 hD, rfl⟩, ?_⟩
  rintro i m H2 ⟨rfl, hle, F2, acc, x2, e2, f2, h2, n2, al⟩
  have same : ∀ k, src = some k → (L2.wipe σ vs)[k]? = σ[k]? := fun k z => wipe_out (hsrc k z)
  refine .inr ⟨wk.go i _ F2 H2 _ _ x2 e2 hok same (by omega), fun H' => i < j ∧ St (i + 1) H', fun H' z => ⟨j - (i + 1), by omega, rfl, z.1, z.2⟩, fun v H3 yl => ?_⟩
  have e2' := e2.pin c0 h2 n2
  obtain ⟨d, F3, hd, x3, e3, r3⟩ := wk.yld i _ F2 H2 _ _ v H3 x2 e2' hok same (by omega) yl
  refine ⟨⟨(i, d), hle, hd⟩, _, F3, e3, r3, fun σ4 F4 H4 w4' x4 e4 => ?_⟩
  have w4 := w4'.trans wipe_wipe
  refine ⟨w4, ?_⟩
  unfold tYes
  refine iteT ?_
  have nx := hL i hle
  by_cases hij : i < j
  · refine ⟨some ⟨(i, d), hij, hd⟩, _, F4, e4, fun yv F5 H5 x5 e5 r5 => ?_⟩
    obtain ⟨e6, f6, h6, n6⟩ := SE.unpin e2.fr c0 f2 (e5.le nx).wiped
    rw [w4] at e6 n6
    exact ⟨acc, h6, by rw [al]; exact line_lt (by omega), hij, F5, acc ++ [yv], x2.trans (x3.trans (x4.trans x5)), e6.wrx c0 f6 h6 n6, f6, upd_same, n6, by rw [List.length_append, al]; rfl⟩
  · have ei : i = j := by omega
    subst ei
    refine ⟨none, _, F4, e4, fun de F5 H5 x5 e5 r5 => ?_⟩
    obtain ⟨e6, f6, h6, n6⟩ := SE.unpin e2.fr c0 f2 (e5.le nx).wiped
    rw [w4] at e6
    have xx := x2.trans (x3.trans (x4.trans x5))
    exact q de F5 H5 (x1.trans xx) (SE.back e1 xx e6).1 r5
end
end G

/-! GMix: lists of unlike things; ints as numbers that may be True. -/
namespace G
open PySem PySem.Spec PyProof.Rows L2
def dM3 {α β γ : Type} (f : α → PyData) (g : β → PyData) (h : γ → PyData) (x : α × β × γ) : PyData := .list [f x.1, g x.2.1, h x.2.2]
theorem lv_up (ns : List Int) : dL PyData.int ns = dL dV (ns.map some) := by
  unfold dL
  rw [List.map_map]
  rfl

/-- a text in a tuple of texts -/
theorem any_eqS {t : Str} : ∀ ss : List Str, inV (.str t) (ss.map V.str) = decide (t ∈ ss)
  | [] => rfl
  | z :: ss => by
    have ih := any_eqS (t := t) ss
    unfold inV at ih ⊢
    rw [List.map_cons, List.any_cons, ih]
    show (z == t || _) = _
    rw [Bool.eq_iff_iff, Bool.or_eq_true, beq_iff_eq, decide_eq_true_iff, decide_eq_true_iff, List.mem_cons]
    exact ⟨fun h => h.imp Eq.symm id, fun h => h.imp Eq.symm id⟩
theorem flat_strs : ∀ ss : List Str, (ss.map V.str).all flatV = true
  | [] => rfl
  | z :: ss => by rw [List.map_cons, List.all_cons, flat_strs ss]; rfl
theorem pd_inSt {X : Cx} {a b : Expr} {pos : Pos} {ρ ρ1 ρ2 : En} {t : Str} {ss : List Str} (ha : PD X a ρ (.str t) ρ1) (hb : PD X b ρ1 (.tuple (ss.map .str)) ρ2) (hm : behindInMarks .In b = false := by rfl) : PD X (.Compare a [.In] [b] pos) ρ (.bool (decide (t ∈ ss))) ρ2 :=
  PE_imp (pe_cmpR op_in_seq ha hb hm) fun σ H Q ⟨C, F, se, q⟩ => ⟨C, F, se, fun v F1 H1 x1 e1 r1 => ⟨C, F1, e1, fun w F2 H2 x2 e2 r2 => by
    cases r2 with
    | tup h1 h2 =>
      rw [h2.strs_inv] at h1
      rw [rp_str r1]
      refine ⟨_, _, rfl, .inr (SqT.of (e2.fr.ext _ _ h1)), rfl, flat_strs ss, ?_⟩
      rw [show (if false = true then _ else inV (.str t) (ss.map V.str)) = inV (.str t) (ss.map V.str) from rfl, any_eqS]
      exact q _ F2 H2 (x1.trans x2) e2 (.bl _)⟩⟩
end G

/-! GDict: dicts: a body's own, and as data. -/
namespace G
open PySem PySem.Spec PyProof.Rows L2
/-! ### tables -/
section
variable {κ α : Type} [DecidableEq κ]
def gv (m : List (κ × α)) (k : κ) : Option α := match m with | [] => none | p :: r => if p.1 = k then some p.2 else gv r k
def hasK (m : List (κ × α)) (k : κ) : Bool := (gv m k).isSome
/-- in its place, or at the end -/
def rv (m : List (κ × α)) (k : κ) (v : α) : List (κ × α) := m.map fun q => if q.1 = k then (q.1, v) else q
theorem rv_len (m : List (κ × α)) (k : κ) (v : α) : (rv m k v).length = m.length := List.length_map _
theorem rv_keys (m : List (κ × α)) (k : κ) (v : α) : (rv m k v).map (·.1) = m.map (·.1) := by
  unfold rv
  rw [List.map_map]
  refine List.map_congr_left fun q _ => ?_
  show (if q.1 = k then (q.1, v) else q).1 = q.1
  split <;> rfl
theorem rv_out {k : κ} {v : α} : ∀ {r : List (κ × α)}, k ∉ r.map (·.1) → rv r k v = r
  | [], _ => rfl
  | p :: r, h => by
    rw [List.map_cons, List.mem_cons] at h
    show (if p.1 = k then (p.1, v) else p) :: rv r k v = _
    rw [if_neg (fun z => h (.inl z.symm)), rv_out (fun z => h (.inr z))]
def pv (m : List (κ × α)) (k : κ) (v : α) : List (κ × α) := match m with | [] => [(k, v)] | p :: r => if p.1 = k then (k, v) :: rv r k v else p :: pv r k v
theorem gv_pv (m : List (κ × α)) (k j : κ) (v : α) : gv (pv m k v) j = if k = j then some v else gv m j := by
  induction m with
  | nil => rfl
  | cons p r ih =>
    unfold pv
    by_cases h : p.1 = k
    · rw [if_pos h]
      show (if k = j then some v else gv (rv r k v) j) = _
      by_cases h2 : k = j
      · rw [if_pos h2, if_pos h2]
      · rw [if_neg h2, if_neg h2]
        show _ = if p.1 = j then some p.2 else gv r j
        rw [if_neg (fun z => h2 (h ▸ z))]
        clear ih
        induction r with
        | nil => rfl
        | cons q r ih2 =>
          show (if (if q.1 = k then (q.1, v) else q).1 = j then some (if q.1 = k then (q.1, v) else q).2 else gv (rv r k v) j) = (if q.1 = j then some q.2 else gv r j)
          rw [ih2]
          by_cases h3 : q.1 = k
          · rw [if_pos h3, if_neg (fun z => h2 (h3 ▸ z)), if_neg (fun z => h2 (h3 ▸ z))]
          · rw [if_neg h3]
    · rw [if_neg h]
      show (if p.1 = j then some p.2 else gv (pv r k v) j) = _
      rw [ih]
      show _ = if k = j then some v else (if p.1 = j then some p.2 else gv r j)
      by_cases h2 : k = j
      · subst h2; rw [if_neg h, if_pos rfl, if_pos rfl]
      · rw [if_neg h2, if_neg h2]
theorem pv_new {m : List (κ × α)} {k : κ} (v : α) (h : gv m k = none) : pv m k v = m ++ [(k, v)] := by
  induction m with
  | nil => rfl
  | cons p r ih =>
    have h0 : (if p.1 = k then some p.2 else gv r k) = none := h
    by_cases q : p.1 = k
    · rw [if_pos q] at h0; cases h0
    · rw [if_neg q] at h0
      show (if p.1 = k then (k, v) :: rv r k v else p :: pv r k v) = _
      rw [if_neg q, ih h0]; rfl
theorem pv_len (m : List (κ × α)) (k : κ) (v : α) : (pv m k v).length = if (gv m k).isSome = true then m.length else m.length + 1 := by
  induction m with
  | nil => rfl
  | cons p r ih =>
    show (if p.1 = k then (k, v) :: rv r k v else p :: pv r k v).length = if (if p.1 = k then some p.2 else gv r k).isSome = true then r.length + 1 else r.length + 2
    by_cases q : p.1 = k
    · rw [if_pos q, if_pos q, List.length_cons, rv_len]; rfl
    · rw [if_neg q, if_neg q, List.length_cons, ih]; split <;> rfl
theorem pv_len_le (m : List (κ × α)) (k : κ) (v : α) : (pv m k v).length ≤ m.length + 1 := by
  rw [pv_len]; split <;> omega
theorem pv_keys (m : List (κ × α)) (k : κ) (v : α) : (pv m k v).map (·.1) = if (gv m k).isSome = true then m.map (·.1) else m.map (·.1) ++ [k] := by
  induction m with
  | nil => rfl
  | cons p r ih =>
    show (if p.1 = k then (k, v) :: rv r k v else p :: pv r k v).map (·.1) = if (if p.1 = k then some p.2 else gv r k).isSome = true then p.1 :: r.map (·.1) else p.1 :: r.map (·.1) ++ [k]
    by_cases q : p.1 = k
    · rw [if_pos q, if_pos q, List.map_cons, rv_keys]
      show k :: _ = p.1 :: _
      rw [q]
    · rw [if_neg q, if_neg q, List.map_cons, ih]; split <;> rfl
theorem gv_mem {m : List (κ × α)} {k : κ} {v : α} (h : gv m k = some v) : (k, v) ∈ m := by
  induction m with
  | nil => cases h
  | cons p r ih =>
    have h0 : (if p.1 = k then some p.2 else gv r k) = some v := h
    by_cases q : p.1 = k
    · rw [if_pos q] at h0
      cases h0
      rw [← q]; exact List.mem_cons_self
    · rw [if_neg q] at h0
      exact List.mem_cons_of_mem _ (ih h0)
theorem gv_none {m : List (κ × α)} {k : κ} : gv m k = none ↔ k ∉ m.map (·.1) := by
  induction m with
  | nil => exact ⟨fun _ => List.not_mem_nil, fun _ => rfl⟩
  | cons p r ih =>
    show (if p.1 = k then some p.2 else gv r k) = none ↔ _
    rw [List.map_cons, List.mem_cons]
    by_cases q : p.1 = k
    · rw [if_pos q]
      exact ⟨(fun z => by cases z), (fun z => absurd (Or.inl q.symm) z)⟩
    · rw [if_neg q, ih]
      exact ⟨fun z y => y.elim (fun y => q y.symm) z, fun z y => z (.inr y)⟩
theorem gv_some {m : List (κ × α)} {k : κ} (h : k ∈ m.map (·.1)) : ∃ v, gv m k = some v := by
  cases q : gv m k with
  | none => exact absurd h (gv_none.mp q)
  | some v => exact ⟨v, rfl⟩
theorem hasK_iff {m : List (κ × α)} {k : κ} : hasK m k = true ↔ k ∈ m.map (·.1) := by
  unfold hasK
  cases q : gv m k with
  | none => exact ⟨(fun z => by cases z), (fun z => absurd z (gv_none.mp q))⟩
  | some v => exact ⟨fun _ => List.mem_map.mpr ⟨_, gv_mem q, rfl⟩, fun _ => rfl⟩
theorem gv_nd {m : List (κ × α)} (nd : (m.map (·.1)).Nodup) {k : κ} {v : α} (h : (k, v) ∈ m) : gv m k = some v := by
  induction m with
  | nil => cases h
  | cons p r ih =>
    rw [List.map_cons, List.nodup_cons] at nd
    show (if p.1 = k then some p.2 else gv r k) = some v
    rcases List.mem_cons.mp h with q | q
    · rw [← q, if_pos rfl]
    · have : p.1 ≠ k := fun z => nd.1 (z ▸ List.mem_map.mpr ⟨_, q, rfl⟩)
      rw [if_neg this]; exact ih nd.2 q
theorem pv_nd {m : List (κ × α)} (nd : (m.map (·.1)).Nodup) (k : κ) (v : α) : ((pv m k v).map (·.1)).Nodup := by
  rw [pv_keys]
  split
  · exact nd
  · rename_i h
    have hk : k ∉ m.map (·.1) := fun z => h (by have := hasK_iff.mpr z; exact this)
    rw [List.nodup_append]
    exact ⟨nd, List.pairwise_singleton _ _, fun a ha b hb => by rw [List.mem_singleton.mp hb]; exact fun z => hk (z ▸ ha)⟩
variable {κ' β : Type} [DecidableEq κ']
theorem gv_map {ky : κ → κ'} (hk : ∀ a b, ky a = ky b → a = b) (f : α → β) (m : List (κ × α)) (k : κ) : gv (m.map fun p => (ky p.1, f p.2)) (ky k) = (gv m k).map f := by
  induction m with
  | nil => rfl
  | cons p r ih =>
    show (if ky p.1 = ky k then some (f p.2) else gv (r.map fun p => (ky p.1, f p.2)) (ky k)) = (if p.1 = k then some p.2 else gv r k).map f
    by_cases q : p.1 = k
    · rw [if_pos q, if_pos (congrArg ky q)]; rfl
    · rw [if_neg q, if_neg (fun z => q (hk _ _ z)), ih]
theorem pv_map {ky : κ → κ'} (hk : ∀ a b, ky a = ky b → a = b) (f : α → β) (m : List (κ × α)) (k : κ) (v : α) : pv (m.map fun p => (ky p.1, f p.2)) (ky k) (f v) = (pv m k v).map fun p => (ky p.1, f p.2) := by
  induction m with
  | nil => rfl
  | cons p r ih =>
    show (if ky p.1 = ky k then (ky k, f v) :: rv (r.map fun p => (ky p.1, f p.2)) (ky k) (f v) else (ky p.1, f p.2) :: pv (r.map fun p => (ky p.1, f p.2)) (ky k) (f v)) = (if p.1 = k then (k, v) :: rv r k v else p :: pv r k v).map fun p => (ky p.1, f p.2)
    by_cases q : p.1 = k
    · rw [if_pos q, if_pos (congrArg ky q), List.map_cons]
      refine congrArg _ ?_
      unfold rv
      rw [List.map_map, List.map_map]
      refine List.map_congr_left fun a _ => ?_
      show (if ky a.1 = ky k then (ky a.1, f v) else (ky a.1, f a.2)) = (fun p : κ × α => (ky p.1, f p.2)) (if a.1 = k then (a.1, v) else a)
      by_cases h : a.1 = k
      · rw [if_pos h, if_pos (congrArg ky h)]
      · rw [if_neg h, if_neg (fun z => h (hk _ _ z))]
    · rw [if_neg q, if_neg (fun z => q (hk _ _ z)), ih]; rfl
end
/-! ### keys -/
abbrev kI : Int → Key := .inl
abbrev kS : Str → Key := .inr
abbrev kT1 {α : Type} (f : α → Key) (p : α) : List Key := [f p]
abbrev kT2 {α β : Type} (f : α → Key) (g : β → Key) (p : α × β) : List Key := [f p.1, g p.2]
abbrev kT3 {α β γ : Type} (f : α → Key) (g : β → Key) (h : γ → Key) (p : α × β × γ) : List Key := [f p.1, g p.2.1, h p.2.2]
abbrev kLT {α : Type} (f : α → Key) (xs : List α) : List Key := xs.map f
theorem kI_inj (a b : Int) (h : kI a = kI b) : a = b := Sum.inl.inj h
theorem kS_inj (a b : Str) (h : kS a = kS b) : a = b := Sum.inr.inj h
theorem kT2_inj {α β : Type} {f : α → Key} {g : β → Key} (hf : ∀ a b, f a = f b → a = b) (hg : ∀ a b, g a = g b → a = b) (p q : α × β) (h : kT2 f g p = kT2 f g q) : p = q := by
  obtain ⟨a, b⟩ := p
  obtain ⟨c, d⟩ := q
  have h1 : f a = f c ∧ g b = g d := by simpa [kT2] using h
  rw [hf _ _ h1.1, hg _ _ h1.2]
theorem kLT_inj {α : Type} {f : α → Key} (hf : ∀ a b, f a = f b → a = b) : ∀ (p q : List α), kLT f p = kLT f q → p = q
  | [], [], _ => rfl
  | [], _ :: _, h => by cases h
  | _ :: _, [], h => by cases h
  | a :: p, b :: q, h => by
    have h1 : f a = f b ∧ kLT f p = kLT f q := by simpa [kLT] using h
    rw [hf _ _ h1.1, kLT_inj hf p q h1.2]
/-- a dict as data -/
abbrev dD {κ α : Type} (ky : κ → Key) (f : α → PyData) (m : List (κ × α)) : PyData := .dict ((m.map fun p => (ky p.1, f p.2)).map fun p => (kD p.1, p.2))
abbrev dDT {κ α : Type} (kt : κ → List Key) (f : α → PyData) (m : List (κ × α)) : PyData := .dict ((m.map fun p => (kt p.1, f p.2)).map fun p => (kDs p.1, p.2))
/-- an own one -/
abbrev oD {κ α : Type} (ky : κ → Key) (f : α → PyData) (m : List (κ × α)) : Ct := .d (m.map fun p => (ky p.1, f p.2))
abbrev oT {κ α : Type} (kt : κ → List Key) (f : α → PyData) (m : List (κ × α)) : Ct := .t (m.map fun p => (kt p.1, f p.2))
section
variable {K : PySem.W.Frag} {F F' H : Hp} {v : V} {x : PyData}
theorem rp_key : ∀ {k : Key}, Rp K F v (kD k) → v = kV k
  | .inl i, r => rp_int r
  | .inr i, r => rp_str r
theorem key_rp : ∀ k : Key, Rp K F (kV k) (kD k)
  | .inl i => .int i
  | .inr i => .str i
theorem rpa_keys : ∀ {k : List Key} {vs : List V}, RpA K F vs (k.map kD) → vs = k.map kV
  | [], _, h => by cases h; rfl
  | k :: ks, _, h => by
    rw [List.map_cons] at h
    cases h with
    | cons a b => rw [rp_key a, rpa_keys b]; rfl
theorem keys_rpa : ∀ k : List Key, RpA K F (k.map kV) (k.map kD)
  | [] => .nil
  | k :: ks => .cons (key_rp k) (keys_rpa ks)
theorem rp_keys {k : List Key} (r : Rp K F v (kDs k)) : ∃ b, v = .ref b ∧ F b = some (.tup (k.map kV)) := by
  unfold kDs at r
  cases r with
  | tup h1 h2 => exact ⟨_, rfl, by rw [h1, rpa_keys h2]⟩
theorem kD_inj : ∀ {a b : Key}, kD a = kD b → a = b
  | .inl _, .inl _, h => by cases h; rfl
  | .inr _, .inr _, h => by cases h; rfl
  | .inl _, .inr _, h => by cases h
  | .inr _, .inl _, h => by cases h
theorem kDm_inj : ∀ {a b : List Key}, a.map kD = b.map kD → a = b
  | [], [], _ => rfl
  | [], _ :: _, h => by cases h
  | _ :: _, [], h => by cases h
  | x :: a, y :: b, h => by
    rw [List.map_cons, List.map_cons] at h
    obtain ⟨h1, h2⟩ := List.cons.inj h
    rw [kD_inj h1, kDm_inj h2]
theorem kDs_inj {a b : List Key} (h : kDs a = kDs b) : a = b := kDm_inj (PyData.tuple.inj h)
section
variable {κ : Type} [DecidableEq κ]
theorem KvA.cons_inv {p : κ × V} {r : List (κ × V)} {ds : List (κ × PyData)} (h : KvA K F (p :: r) ds) : ∃ d s, ds = (p.1, d) :: s ∧ Rp K F p.2 d ∧ KvA K F r s := by
  obtain ⟨h1, h2⟩ := h
  cases ds with
  | nil => cases h1
  | cons q s =>
    obtain ⟨e1, e2⟩ := List.cons.inj h1
    cases h2 with
    | cons a b => exact ⟨q.2, s, by rw [show p.1 = q.1 from e1], a, e2, b⟩
theorem KvA.nil_inv {ds : List (κ × PyData)} (h : KvA K F ([] : List (κ × V)) ds) : ds = [] := by
  obtain ⟨h1, h2⟩ := h
  cases ds with
  | nil => rfl
  | cons q s => cases h1
theorem KvA.cons {p : κ × V} {d : PyData} {r : List (κ × V)} {s : List (κ × PyData)} (h : Rp K F p.2 d) (t : KvA K F r s) : KvA K F (p :: r) ((p.1, d) :: s) := ⟨congrArg (p.1 :: ·) t.1, .cons h t.2⟩
theorem KvA.len {kvs : List (κ × V)} {ds : List (κ × PyData)} (h : KvA K F kvs ds) : kvs.length = ds.length := by
  have := h.2.length
  simpa using this
theorem KvA.gv : ∀ {kvs : List (κ × V)} {ds : List (κ × PyData)}, KvA K F kvs ds → ∀ k, (∀ x, G.gv ds k = some x → ∃ v, valV kvs k = some v ∧ Rp K F v x) ∧ (G.gv ds k = none → valV kvs k = none)
  | [], ds, h, k => by
    rw [h.nil_inv]
    exact ⟨fun _ z => (by cases z), fun _ => rfl⟩
  | p :: r, ds, h, k => by
    obtain ⟨d, s, rfl, h1, h2⟩ := h.cons_inv
    have ih := KvA.gv h2 k
    show (∀ x, (if p.1 = k then some d else G.gv s k) = some x → _) ∧ ((if p.1 = k then some d else G.gv s k) = none → _)
    by_cases q : p.1 = k
    · rw [if_pos q, valV_pos q]
      exact ⟨fun x z => by cases z; exact ⟨_, rfl, h1⟩, fun z => nomatch z⟩
    · rw [if_neg q, valV_neg q]; exact ih
theorem putK_cons {p : κ × V} {r : List (κ × V)} {k : κ} {v : V} : putK (p :: r) k v = if p.1 = k then (k, v) :: (r.map fun kv => if kv.1 = k then (kv.1, v) else kv) else p :: putK r k v := by
  unfold putK
  by_cases q : p.1 = k
  · rw [if_pos q, if_pos (by simp [q]), List.map_cons, if_pos q, q]
  · rw [if_neg q]
    simp only [List.any_cons, q, decide_false, Bool.false_or, List.map_cons, if_false]
    split <;> rfl
theorem KvA.rv : ∀ {kvs : List (κ × V)} {ds : List (κ × PyData)}, KvA K F kvs ds → ∀ (k : κ) {v : V} {x : PyData}, Rp K F v x → KvA K F (kvs.map fun kv => if kv.1 = k then (kv.1, v) else kv) (G.rv ds k x)
  | [], ds, h, k, v, x, r => by rw [h.nil_inv]; exact ⟨rfl, .nil⟩
  | p :: r, ds, h, k, v, x, rx => by
    obtain ⟨d, s, rfl, h1, h2⟩ := h.cons_inv
    show KvA K F ((if p.1 = k then (p.1, v) else p) :: _) ((if p.1 = k then (p.1, x) else (p.1, d)) :: G.rv s k x)
    by_cases q : p.1 = k
    · rw [if_pos q, if_pos q]
      exact KvA.cons (p := (p.1, v)) rx (KvA.rv h2 k rx)
    · rw [if_neg q, if_neg q]
      exact KvA.cons h1 (KvA.rv h2 k rx)
theorem KvA.pv : ∀ {kvs : List (κ × V)} {ds : List (κ × PyData)}, KvA K F kvs ds → ∀ (k : κ) {v : V} {x : PyData}, Rp K F v x → KvA K F (putK kvs k v) (G.pv ds k x)
  | [], ds, h, k, v, x, r => by
    rw [h.nil_inv]
    exact ⟨rfl, .cons r .nil⟩
  | p :: r, ds, h, k, v, x, rx => by
    obtain ⟨d, s, rfl, h1, h2⟩ := h.cons_inv
    rw [putK_cons]
    show KvA K F _ (if p.1 = k then (k, x) :: G.rv s k x else (p.1, d) :: G.pv s k x)
    by_cases q : p.1 = k
    · rw [if_pos q, if_pos q]
      exact KvA.cons (p := (k, v)) rx (h2.rv k rx)
    · rw [if_neg q, if_neg q]
      exact KvA.cons h1 (KvA.pv h2 k rx)
end
end
end G

/-! GDict2: dicts, the rules. -/
namespace G
open PySem PySem.Spec PyProof.Rows L2
section
variable {X : Cx} {W : WX} {e a b c tg iter elt : Expr} {es : List Expr} {p pos pos' : Pos} {ρ ρ' ρ1 ρ2 ρ3 : En} {x y z : PyData} {st : Stmt} {rest A B body : List Stmt} {D : DE} {i j : Int} {w o : Str} {p1 p2 p3 : Pos} {pa pb : Option Addr} {ds ds' : List (Key × PyData)} {ts ts' : List (List Key × PyData)} {k : Key} {kk : List Key} {ob : Option PyData}
/-! ### own dicts -/
theorem dget_own {K : PySem.W.Frag} {F H : Hp} {l : Addr} {v : V} {kvs : List (Key × V)} (h : H l = some (.dK kvs)) (q : KvA K F kvs ds) (r : Rp K F v (kD k)) : ∃ o, DGet H l v o ∧ (∀ x, gv ds k = some x → ∃ u, o = some u ∧ Rp K F u x) ∧ (gv ds k = none → o = none) := by
  have g := DGet.k (k := k) h
  refine ⟨valV kvs k, by rw [rp_key r]; exact g, (q.gv k).1, (q.gv k).2⟩
theorem dget_ownT {K : PySem.W.Frag} {F H : Hp} {l : Addr} {v : V} {kvs : List (List Key × V)} (e : Ex F H) (h : H l = some (.dT kvs)) (q : KvA K F kvs ts) (r : Rp K F v (kDs kk)) : ∃ o, DGet H l v o ∧ (∀ x, gv ts kk = some x → ∃ u, o = some u ∧ Rp K F u x) ∧ (gv ts kk = none → o = none) := by
  obtain ⟨b, rfl, hb⟩ := rp_keys r
  exact ⟨valV kvs kk, DGet.t h (e _ _ hb), (q.gv kk).1, (q.gv kk).2⟩
/-- what is known of the slot: an own dict -/
inductive DK : Ct → PyData → Option PyData → Prop
  | d {ds : List (Key × PyData)} {k : Key} : DK (.d ds) (kD k) (gv ds k)
  | t {ts : List (List Key × PyData)} {k : List Key} : DK (.t ts) (kDs k) (gv ts k)
  | g {p : Addr} {c : Ct} {y : PyData} {ob : Option PyData} : DK c y ob → DK (.g p c) y ob
  | fd {od : Obj} {u : HO} {ds : List (Key × PyData)} {k : Key} : DK (.f od u (.d ds)) (kD k) (gv ds k)
  | ft {od : Obj} {u : HO} {ts : List (List Key × PyData)} {k : List Key} : DK (.f od u (.t ts)) (kDs k) (gv ts k)
theorem hoIs_d {K : PySem.W.Frag} {F : Hp} {u : HO} {ds : List (Key × PyData)} (h : HoIs K F u (.d ds)) : ∃ kvs, u = .dK kvs ∧ KvA K F kvs ds := by
  unfold HoIs at h
  split at h
  · rename_i e; cases e; exact ⟨_, rfl, h⟩
  · rename_i e; cases e
  · exact h.elim
theorem hoIs_t {K : PySem.W.Frag} {F : Hp} {u : HO} {ds : List (List Key × PyData)} (h : HoIs K F u (.t ds)) : ∃ kvs, u = .dT kvs ∧ KvA K F kvs ds := by
  unfold HoIs at h
  split at h
  · rename_i e; cases e
  · rename_i e; cases e; exact ⟨_, rfl, h⟩
  · exact h.elim
theorem DK.get {K : PySem.W.Frag} {F H : Hp} {l : Addr} {v : V} {ct : Ct} {y : PyData} {ob : Option PyData} (dk : DK ct y ob) (e : Ex F H) (h : Own1 K F H l ct) (r : Rp K F v y) : ∃ o, DGet H l v o ∧ (∀ x, ob = some x → ∃ u, o = some u ∧ Rp K F u x) ∧ (ob = none → o = none) := by
  induction dk with
  | d => obtain ⟨kvs, h1, h2⟩ := h; exact dget_own h1 h2 r
  | t => obtain ⟨kvs, h1, h2⟩ := h; exact dget_ownT e h1 h2 r
  | g _ ih => exact ih h.2 r
  | fd =>
    obtain ⟨h1, h2⟩ := h
    obtain ⟨kvs, rfl, q⟩ := hoIs_d h2
    exact ⟨_, by rw [rp_key r]; exact .inl ⟨kvs, _, .inr ⟨_, h1⟩, rfl, rfl⟩, (q.gv _).1, (q.gv _).2⟩
  | ft =>
    obtain ⟨h1, h2⟩ := h
    obtain ⟨kvs, rfl, q⟩ := hoIs_t h2
    obtain ⟨b, rfl, hb⟩ := rp_keys r
    exact ⟨_, .inr ⟨kvs, _, b, .inr ⟨_, h1⟩, rfl, e _ _ hb, rfl⟩, (q.gv _).1, (q.gv _).2⟩
theorem DK.isD {K : PySem.W.Frag} {F H : Hp} {l : Addr} {ct : Ct} {y : PyData} {ob : Option PyData} (dk : DK ct y ob) (h : Own1 K F H l ct) : IsD H l := by
  induction dk with
  | d => obtain ⟨kvs, h1, h2⟩ := h; exact .inl ⟨kvs, .inl h1⟩
  | t => obtain ⟨kvs, h1, h2⟩ := h; exact .inr ⟨kvs, .inl h1⟩
  | g _ ih => exact ih h.2
  | fd =>
    obtain ⟨h1, h2⟩ := h
    obtain ⟨kvs, rfl, q⟩ := hoIs_d h2
    exact .inl ⟨kvs, .inr ⟨_, h1⟩⟩
  | ft =>
    obtain ⟨h1, h2⟩ := h
    obtain ⟨kvs, rfl, q⟩ := hoIs_t h2
    exact .inr ⟨kvs, .inr ⟨_, h1⟩⟩
variable {ct ct' : Ct}
/-- d[k], d an own dict -/
theorem pd_dgetO (n : Nat) (hu : X.A.units + 65 < cLine) (h0 : ρ[n]? = some (.o pa ct)) (hb : PD X b ρ y ρ1) (h1 : ρ1[n]? = some (.o pb ct')) (dk : DK ct' y (some x))
    (hN : X.N[n]? = some o := by rfl) (hv : Vis X.env.scope o := by first | exact Or.inl rfl | exact Or.inr (Or.inl rfl) | exact Or.inr (Or.inr rfl)) (hd : (o == ("__debug__" : Str)) = false := by decide) (hcd : (o == ("__classdict__" : Str)) = false := by decide)
    (hs : NoSl b := by intro _ _; rfl) : PD X (.Subscript (.Name o p1) b pos) ρ x ρ1 :=
  PE_imp (pe_dget (by omega) (pe_var hN hv hd hcd) hb hs) fun σ H Q ⟨C, F, se, q⟩ => by
    obtain ⟨l, a1, _, _, _⟩ := se.getO h0
    refine ⟨.ref l, a1, C, F, se, fun v F1 H1 x1 e1 r1 => ?_⟩
    obtain ⟨l', b1, _, b2, _⟩ := e1.getO h1
    rw [a1] at b1
    cases b1
    obtain ⟨ov, g1, g2, _⟩ := dk.get e1.fr.ext b2 r1
    obtain ⟨u, rfl, g3⟩ := g2 x rfl
    exact ⟨l, u, rfl, g1, q u F1 H1 x1 e1 g3⟩
/-- d.get(k, z) -/
theorem pd_dget2O (n : Nat) (hu : X.A.units + 65 < cLine) (h0 : ρ[n]? = some (.o pa ct)) (ha : PD X a ρ y ρ1) (hb : PD X b ρ1 z ρ2) (h1 : ρ2[n]? = some (.o pb ct')) (dk : DK ct' y ob) (dk0 : DK ct y' ob')
    (hN : X.N[n]? = some o := by rfl) (hv : Vis X.env.scope o := by first | exact Or.inl rfl | exact Or.inr (Or.inl rfl) | exact Or.inr (Or.inr rfl)) (hd : (o == ("__debug__" : Str)) = false := by decide) (hcd : (o == ("__classdict__" : Str)) = false := by decide)
    (m : M2 X (.Name o p1) "get" p2 a b pos := by exact ⟨rfl, rfl, rfl, rfl⟩) : PD X (.Call (.Attribute (.Name o p1) "get" p2) [a, b] [] pos) ρ (ob.getD z) ρ2 :=
  PE_imp (pe_dget2 (by omega) (pe_var hN hv hd hcd) ha hb m) fun σ H Q ⟨C, F, se, q⟩ => by
    obtain ⟨l, a1, _, a2, _⟩ := se.getO h0
    refine ⟨.ref l, a1, l, rfl, dk0.isD a2, C, F, se, fun v F1 H1 x1 e1 r1 => ⟨C, F1, e1, fun u F2 H2 x2 e2 r2 => ?_⟩⟩
    obtain ⟨l', b1, _, b2, _⟩ := e2.getO h1
    rw [a1] at b1
    cases b1
    obtain ⟨ov, g1, g2, g3⟩ := dk.get e2.fr.ext b2 (r1.mono x2)
    refine ⟨ov, g1, ?_⟩
    cases ob with
    | none => rw [g3 rfl]; exact q u F2 H2 (x1.trans x2) e2 r2
    | some x =>
      obtain ⟨t, rfl, g4⟩ := g2 x rfl
      exact q t F2 H2 (x1.trans x2) e2 g4
theorem iss_of {K : PySem.W.Frag} {F : Hp} {ob : Option PyData} {ov : Option V} (g2 : ∀ x, ob = some x → ∃ u, ov = some u ∧ Rp K F u x) (g3 : ob = none → ov = none) : ov.isSome = ob.isSome := by
  cases ob with
  | none => rw [g3 rfl]; rfl
  | some x => obtain ⟨t, rfl, _⟩ := g2 x rfl; rfl
/-- k in d, k not in d -/
theorem pd_dinO (n : Nat) (hu : X.A.units + 65 < cLine) (ha : PD X a ρ y ρ1) (h1 : ρ1[n]? = some (.o pb ct)) (dk : DK ct y ob)
    (hN : X.N[n]? = some o := by rfl) (hv : Vis X.env.scope o := by first | exact Or.inl rfl | exact Or.inr (Or.inl rfl) | exact Or.inr (Or.inr rfl)) (hd : (o == ("__debug__" : Str)) = false := by decide) (hcd : (o == ("__classdict__" : Str)) = false := by decide)
    (hm : behindInMarks .In (.Name o p1) = false := by rfl) : PD X (.Compare a [.In] [.Name o p1] pos) ρ (.bool ob.isSome) ρ1 :=
  PE_imp (pe_cmp (pc_din (by omega) ha (pe_var hN hv hd hcd)) hm) fun σ H Q ⟨C, F, se, q⟩ => ⟨C, F, se, fun v F1 H1 x1 e1 r1 => by
    obtain ⟨l, b1, _, b2, _⟩ := e1.getO h1
    obtain ⟨ov, g1, g2, g3⟩ := dk.get e1.fr.ext b2 r1
    exact ⟨.ref l, b1, l, ov, rfl, g1, q _ F1 H1 x1 e1 (by rw [iss_of g2 g3]; exact .bl _)⟩⟩
theorem pd_dnotO (n : Nat) (hu : X.A.units + 65 < cLine) (ha : PD X a ρ y ρ1) (h1 : ρ1[n]? = some (.o pb ct)) (dk : DK ct y ob)
    (hN : X.N[n]? = some o := by rfl) (hv : Vis X.env.scope o := by first | exact Or.inl rfl | exact Or.inr (Or.inl rfl) | exact Or.inr (Or.inr rfl)) (hd : (o == ("__debug__" : Str)) = false := by decide) (hcd : (o == ("__classdict__" : Str)) = false := by decide)
    (hm : behindInMarks .NotIn (.Name o p1) = false := by rfl) : PD X (.Compare a [.NotIn] [.Name o p1] pos) ρ (.bool (!ob.isSome)) ρ1 :=
  PE_imp (pe_cmp (pc_dnotin (by omega) ha (pe_var hN hv hd hcd)) hm) fun σ H Q ⟨C, F, se, q⟩ => ⟨C, F, se, fun v F1 H1 x1 e1 r1 => by
    obtain ⟨l, b1, _, b2, _⟩ := e1.getO h1
    obtain ⟨ov, g1, g2, g3⟩ := dk.get e1.fr.ext b2 r1
    exact ⟨.ref l, b1, l, ov, rfl, g1, q _ F1 H1 x1 e1 (by rw [iss_of g2 g3]; exact .bl _)⟩⟩
/-- how it is behind d[k] = x -/
inductive DP : Ct → PyData → PyData → Ct → Prop
  | d {ds : List (Key × PyData)} {k : Key} {x : PyData} : ds.length < 100000 → DP (.d ds) (kD k) x (.d (pv ds k x))
  | t {ts : List (List Key × PyData)} {k : List Key} {x : PyData} : ts.length < 100000 → DP (.t ts) (kDs k) x (.t (pv ts k x))
  | g {p : Addr} {c c' : Ct} {y x : PyData} : DP c y x c' → DP (.g p c) y x (.g p c')
theorem DP.put {K : PySem.W.Frag} {F H : Hp} {l : Addr} {v u : V} {ct c2 : Ct} {x y : PyData} (dp : DP ct y x c2) (e : Ex F H) (h : Own1 K F H l ct) (rk : Rp K F u y) (rv : Rp K F v x) : ∃ o, DPut H l u v (upd H l o) ∧ Own1 K F (upd H l o) l c2 := by
  induction dp with
  | d hl =>
    obtain ⟨kvs, b2, b3⟩ := h
    exact ⟨_, by rw [rp_key rk]; exact DPut.k b2 (by rw [b3.len]; exact line_lt hl), _, upd_same, b3.pv _ rv⟩
  | t hl =>
    obtain ⟨kvs, b2, b3⟩ := h
    obtain ⟨bb, rfl, hb⟩ := rp_keys rk
    exact ⟨_, DPut.t b2 (e _ _ hb) (by rw [b3.len]; exact line_lt hl), _, upd_same, b3.pv _ rv⟩
  | g _ ih =>
    obtain ⟨o, h1, h2⟩ := ih h.2 rk rv
    exact ⟨o, h1, h.1, h2⟩
theorem sd_dput (n : Nat) (hu : X.A.units + 65 < cLine) (he : PD X e ρ x ρ1) (h0 : ρ1[n]? = some (.o pa ct)) (hk : PD X b ρ1 y ρ2) (h1 : ρ2[n]? = some (.o pb ct')) (dp : DP ct' y x c2) (h : D.nx (ρ2.set n (.o pb c2)))
    (hN : X.N[n]? = some o := by rfl) (hv : Vis X.env.scope o := by first | exact Or.inl rfl | exact Or.inr (Or.inl rfl) | exact Or.inr (Or.inr rfl)) (hd : (o == ("__debug__" : Str)) = false := by decide) (hcd : (o == ("__classdict__" : Str)) = false := by decide)
    (hs : swapsWith e (some (.Subscript (.Name o p1) b p2)) pos.line X.env = pure false := by rfl) : SD X W (.Assign [.Subscript (.Name o p1) b p2] e pos) ρ D :=
  PS_imp (ps_dput (by omega) (pe_var hN hv hd hcd) hk he hs) fun E σ H ⟨C, F, se, cv⟩ => ⟨C, F, se, fun v F1 H1 x1 e1 r1 => by
    obtain ⟨l, a1, _, _, _⟩ := e1.getO h0
    refine ⟨.ref l, a1, C, F1, e1, fun u F2 H2 x2 e2 r2 => ?_⟩
    obtain ⟨l', b1, _, b2, _⟩ := e2.getO h1
    rw [a1] at b1
    cases b1
    obtain ⟨o, g1, g2⟩ := dp.put e2.fr.ext b2 r2 (r1.mono x2)
    exact ⟨l, _, rfl, g1, cv.nx _ F2 _ _ h (e2.wr h1 a1 g2)⟩⟩
/-- an own dict becomes data, as it is read -/
theorem pd_thawD (n : Nat) (h0 : ρ[n]? = some (.o none (.d ds))) (hN : X.N[n]? = some w := by rfl) (hv : Vis X.env.scope w := by first | exact Or.inl rfl | exact Or.inr (Or.inl rfl) | exact Or.inr (Or.inr rfl)) (hd : (w == ("__debug__" : Str)) = false := by decide) (hcd : (w == ("__classdict__" : Str)) = false := by decide) :
    PD X (.Name w pos) ρ (.dict (ds.map fun p => (kD p.1, p.2))) (ρ.set n (.d (.dict (ds.map fun p => (kD p.1, p.2))))) :=
  PE_imp (pe_frz (pe_var hN hv hd hcd)) fun σ H Q ⟨C, F, se, q⟩ => by
    obtain ⟨l, a1, _, ⟨kvs, a3, a5⟩, a4⟩ := se.getO h0
    have fl := (se.own n l a4).1
    refine ⟨.ref l, a1, l, _, a3, trivial, fun od => ?_⟩
    have r : Rp X.K (L2.upd F l (.frz od (.dK kvs))) (.ref l) (.dict (ds.map fun p => (kD p.1, p.2))) := by rw [← keys_zip kD a5.1]; exact .dK upd_same (a5.2.mono (.new fl))
    exact q _ _ _ (.new fl) (se.thawF h0 a1 r) r
theorem pd_thawT (n : Nat) (h0 : ρ[n]? = some (.o none (.t ts))) (hN : X.N[n]? = some w := by rfl) (hv : Vis X.env.scope w := by first | exact Or.inl rfl | exact Or.inr (Or.inl rfl) | exact Or.inr (Or.inr rfl)) (hd : (w == ("__debug__" : Str)) = false := by decide) (hcd : (w == ("__classdict__" : Str)) = false := by decide) :
    PD X (.Name w pos) ρ (.dict (ts.map fun p => (kDs p.1, p.2))) (ρ.set n (.d (.dict (ts.map fun p => (kDs p.1, p.2))))) :=
  PE_imp (pe_frzT (pe_var hN hv hd hcd)) fun σ H Q ⟨C, F, se, q⟩ => by
    obtain ⟨l, a1, _, ⟨kvs, a3, a5⟩, a4⟩ := se.getO h0
    have fl := (se.own n l a4).1
    refine ⟨.ref l, a1, l, _, a3, fun od => ?_⟩
    have r : Rp X.K (L2.upd F l (frzOf od kvs)) (.ref l) (.dict (ts.map fun p => (kDs p.1, p.2))) := rp_frzT (a5.mono (.new fl)) upd_same
    exact q _ _ _ (.new fl) (se.thawF h0 a1 r) r
end
/-! ### dicts as data -/
section
variable {K : PySem.W.Frag} {F F' H : Hp} {v : V} {x : PyData}
theorem zip_inv {κ κ' : Type} {f : κ → PyData} {g : κ' → PyData} : ∀ {kvs : List κ} {vs : List PyData} {ds : List (κ' × PyData)}, kvs.length = vs.length → (kvs.map f).zip vs = ds.map (fun p => (g p.1, p.2)) → kvs.map f = ds.map (fun p => g p.1) ∧ vs = ds.map (·.2)
  | [], [], [], _, _ => ⟨rfl, rfl⟩
  | [], [], _ :: _, _, h => by cases h
  | _ :: _, [], _, l, _ => by cases l
  | [], _ :: _, _, l, _ => by cases l
  | _ :: _, _ :: _, [], _, h => by cases h
  | k :: kvs, v :: vs, d :: ds, l, h => by
    rw [List.map_cons, List.zip_cons_cons, List.map_cons] at h
    obtain ⟨h1, h2⟩ := List.cons.inj h
    obtain ⟨h3, h4⟩ := Prod.mk.inj h1
    obtain ⟨i1, i2⟩ := zip_inv (by simpa using l) h2
    exact ⟨by rw [List.map_cons, List.map_cons, i1, h3], by rw [List.map_cons, i2, h4]⟩
theorem mapk_inj {κ : Type} {f : κ → PyData} (hf : ∀ a b, f a = f b → a = b) {kvs : List (κ × V)} {ds : List (κ × PyData)} (h : (kvs.map fun p => f p.1) = ds.map fun p => f p.1) : kvs.map (·.1) = ds.map (·.1) := by
  induction kvs generalizing ds with
  | nil => cases ds with
    | nil => rfl
    | cons _ _ => cases h
  | cons p r ih => cases ds with
    | nil => cases h
    | cons q s =>
      rw [List.map_cons, List.map_cons] at h
      obtain ⟨h1, h2⟩ := List.cons.inj h
      rw [List.map_cons, List.map_cons, hf _ _ h1, ih h2]
theorem rp_dict {ds : List (Key × PyData)} (r : Rp K F v (.dict (ds.map fun p => (kD p.1, p.2)))) : ∃ a o kvs, v = .ref a ∧ F a = some (.frz o (.dK kvs)) ∧ KvA K F kvs ds := by
  generalize hd : PyData.dict (ds.map fun p => (kD p.1, p.2)) = d at r
  cases r with
  | @dK a o kvs vs h1 h2 =>
    have e := (PyData.dict.inj hd).symm
    have l := h2.length
    rw [List.length_map] at l
    have e2 := zip_inv (f := fun p : Key × V => kD p.1) l e
    exact ⟨a, o, kvs, rfl, h1, mapk_inj (fun _ _ z => kD_inj z) e2.1, by rw [← e2.2]; exact h2⟩
  | @dT a o kvs vs h1 hn h2 =>
    have e := (PyData.dict.inj hd).symm
    have l := h2.length
    rw [List.length_map] at l
    have e2 := zip_inv (f := fun p : List Key × V => kDs p.1) l e
    cases kvs with
    | nil => exact absurd rfl hn
    | cons q r =>
      cases ds with
      | nil => cases e2.1
      | cons d ds =>
        have h3 := (List.cons.inj e2.1).1
        obtain ⟨k, _⟩ := d
        cases k <;> cases h3
  | _ => cases hd
theorem rp_dictT {ts : List (List Key × PyData)} (r : Rp K F v (.dict (ts.map fun p => (kDs p.1, p.2)))) : ∃ a o, v = .ref a ∧ ((∃ kvs, F a = some (.frz o (.dT kvs)) ∧ KvA K F kvs ts) ∨ (F a = some (.frz o (.dK [])) ∧ ts = [])) := by
  generalize hd : PyData.dict (ts.map fun p => (kDs p.1, p.2)) = d at r
  cases r with
  | @dT a o kvs vs h1 hn h2 =>
    have e := (PyData.dict.inj hd).symm
    have l := h2.length
    rw [List.length_map] at l
    have e2 := zip_inv (f := fun p : List Key × V => kDs p.1) l e
    exact ⟨a, o, rfl, .inl ⟨kvs, h1, mapk_inj (fun _ _ z => kDs_inj z) e2.1, by rw [← e2.2]; exact h2⟩⟩
  | @dK a o kvs vs h1 h2 =>
    have e := (PyData.dict.inj hd).symm
    have l := h2.length
    rw [List.length_map] at l
    have e2 := zip_inv (f := fun p : Key × V => kD p.1) l e
    cases ts with
    | nil =>
      cases kvs with
      | nil => exact ⟨a, o, rfl, .inr ⟨h1, rfl⟩⟩
      | cons _ _ => cases e2.1
    | cons d ds =>
      cases kvs with
      | nil => cases e2.1
      | cons q r =>
        have h3 := (List.cons.inj e2.1).1
        obtain ⟨k, _⟩ := q
        cases k <;> cases h3
  | _ => cases hd
theorem KvA.get {κ : Type} {kvs : List (κ × V)} {ds : List (κ × PyData)} (h : KvA K F kvs ds) {n : Nat} {k : κ} {v : V} (e : kvs[n]? = some (k, v)) : ∃ d, ds[n]? = some (k, d) ∧ Rp K F v d := by
  have h1 : (kvs.map (·.1))[n]? = some k := by rw [List.getElem?_map, e]; rfl
  have h2 : (kvs.map (·.2))[n]? = some v := by rw [List.getElem?_map, e]; rfl
  obtain ⟨d, h3, h4⟩ := h.2.getV h2
  rw [h.1, List.getElem?_map] at h1
  rw [List.getElem?_map] at h3
  cases q : ds[n]? with
  | none => rw [q] at h1; cases h1
  | some p =>
    rw [q] at h1 h3
    cases h1
    cases h3
    exact ⟨p.2, rfl, h4⟩
end
section
variable {X : Cx} {W : WX} {e a b c tg iter elt : Expr} {es : List Expr} {p pos pos' : Pos} {ρ ρ' ρ1 ρ2 ρ3 : En} {x y z : PyData} {ds : List (Key × PyData)} {ts : List (List Key × PyData)} {k : Key} {kk : List Key} {ob : Option PyData}
/-- what is known of a dict that is data (with tuples as keys: it is not empty) -/
inductive DF : PyData → PyData → Option PyData → Prop
  | d {ds : List (Key × PyData)} {k : Key} : DF (.dict (ds.map fun p => (kD p.1, p.2))) (kD k) (gv ds k)
  | t {ts : List (List Key × PyData)} {k : List Key} : ts ≠ [] → DF (.dict (ts.map fun p => (kDs p.1, p.2))) (kDs k) (gv ts k)
theorem DF.get {K : PySem.W.Frag} {F H : Hp} {u v : V} {d : PyData} {y : PyData} {ob : Option PyData} (df : DF d y ob) (e : Ex F H) (h : Rp K F u d) (r : Rp K F v y) : ∃ l o, u = .ref l ∧ DGet H l v o ∧ (∀ x, ob = some x → ∃ u, o = some u ∧ Rp K F u x) ∧ (ob = none → o = none) := by
  cases df with
  | @d ds k =>
    obtain ⟨l, o, kvs, rfl, h1, h2⟩ := rp_dict h
    exact ⟨l, valV kvs k, rfl, by rw [rp_key r]; exact .inl ⟨kvs, k, .inr ⟨o, e _ _ h1⟩, rfl, rfl⟩, (h2.gv k).1, (h2.gv k).2⟩
  | @t ts k hn =>
    obtain ⟨b, rfl, hb⟩ := rp_keys r
    obtain ⟨l, o, rfl, ⟨kvs, h1, h2⟩ | ⟨_, z⟩⟩ := rp_dictT h
    · exact ⟨l, valV kvs k, rfl, .inr ⟨kvs, k, b, .inr ⟨o, e _ _ h1⟩, rfl, e _ _ hb, rfl⟩, (h2.gv k).1, (h2.gv k).2⟩
    · exact absurd z hn
variable {d : PyData}
theorem pd_dgetD (hu : X.A.units + 65 < cLine) (ha : PD X a ρ d ρ1) (hb : PD X b ρ1 y ρ2) (df : DF d y (some x)) (hs : NoSl b := by intro _ _; rfl) : PD X (.Subscript a b pos) ρ x ρ2 :=
  PE_imp (pe_dget (by omega) ha hb hs) fun σ H Q ⟨C, F, se, q⟩ => ⟨C, F, se, fun u F1 H1 x1 e1 r1 => ⟨C, F1, e1, fun v F2 H2 x2 e2 r2 => by
    obtain ⟨l, ov, rfl, g1, g2, _⟩ := df.get e2.fr.ext (r1.mono x2) r2
    obtain ⟨t, rfl, g3⟩ := g2 x rfl
    exact ⟨l, t, rfl, g1, q t F2 H2 (x1.trans x2) e2 g3⟩⟩⟩
theorem pd_dinD (hu : X.A.units + 65 < cLine) (ha : PD X a ρ y ρ1) (hb : PD X b ρ1 d ρ2) (df : DF d y ob) (hm : behindInMarks .In b = false := by rfl) : PD X (.Compare a [.In] [b] pos) ρ (.bool ob.isSome) ρ2 :=
  PE_imp (pe_cmp (pc_din (by omega) ha hb) hm) fun σ H Q ⟨C, F, se, q⟩ => ⟨C, F, se, fun v F1 H1 x1 e1 r1 => ⟨C, F1, e1, fun u F2 H2 x2 e2 r2 => by
    obtain ⟨l, ov, rfl, g1, g2, g3⟩ := df.get e2.fr.ext r2 (r1.mono x2)
    exact ⟨l, ov, rfl, g1, q _ F2 H2 (x1.trans x2) e2 (by rw [iss_of g2 g3]; exact .bl _)⟩⟩⟩
theorem pd_dnotD (hu : X.A.units + 65 < cLine) (ha : PD X a ρ y ρ1) (hb : PD X b ρ1 d ρ2) (df : DF d y ob) (hm : behindInMarks .NotIn b = false := by rfl) : PD X (.Compare a [.NotIn] [b] pos) ρ (.bool (!ob.isSome)) ρ2 :=
  PE_imp (pe_cmp (pc_dnotin (by omega) ha hb) hm) fun σ H Q ⟨C, F, se, q⟩ => ⟨C, F, se, fun v F1 H1 x1 e1 r1 => ⟨C, F1, e1, fun u F2 H2 x2 e2 r2 => by
    obtain ⟨l, ov, rfl, g1, g2, g3⟩ := df.get e2.fr.ext r2 (r1.mono x2)
    exact ⟨l, ov, rfl, g1, q _ F2 H2 (x1.trans x2) e2 (by rw [iss_of g2 g3]; exact .bl _)⟩⟩⟩
/-- for k in d -/
theorem id_dkeys (h : PD X e ρ (.dict (ds.map fun p => (kD p.1, p.2))) ρ') : ID X tg e ρ (ds.map fun p => kD p.1) (fun _ => True) none ρ' := PI_imp (pi_keys h) fun σ H R ⟨C, F, se, q⟩ => ⟨C, F, se, fun v F1 H1 x1 e1 r1 => by
  obtain ⟨a, o, kvs, rfl, h1, h2⟩ := rp_dict r1
  have hl := h2.len
  refine ⟨a, o, rfl, .inl ⟨kvs, e1.fr.ext _ _ h1, q _ F1 H1 x1 e1 ⟨fun i C F2 H2 σ2 ρ2 x2 e2 ok2 hs hi => ?_, fun C F2 H2 σ2 ρ2 x2 e2 ok2 hs => ?_, fun i C F2 H2 σ2 ρ2 v H3 x2 e2 ok2 hs hi y => ?_⟩⟩⟩
  · exact walk_keys.goes i H2 (by rw [List.length_map] at hi; omega) (e2.fr.ext _ _ (x2 _ _ h1))
  · rw [List.length_map, ← hl]; exact walk_keys.stops H2 (e2.fr.ext _ _ (x2 _ _ h1))
  · obtain ⟨rfl, k, v0, h3, rfl⟩ := walk_keys.yields i H2 v H3 (by rw [List.length_map] at hi; omega) (e2.fr.ext _ _ (x2 _ _ h1)) y
    obtain ⟨d, h4, h5⟩ := h2.get h3
    exact ⟨kD k, F2, by rw [List.getElem?_map, h4]; rfl, .refl _, e2, key_rp k⟩⟩
theorem id_dkeysT (h : PD X e ρ (.dict (ts.map fun p => (kDs p.1, p.2))) ρ') : ID X tg e ρ (ts.map fun p => kDs p.1) (fun _ => True) none ρ' := PI_imp (pi_keys h) fun σ H R ⟨C, F, se, q⟩ => ⟨C, F, se, fun v F1 H1 x1 e1 r1 => by
  obtain ⟨a, o, rfl, ⟨kvs, h1, h2⟩ | ⟨h1, rfl⟩⟩ := rp_dictT r1
  · have hl := h2.len
    refine ⟨a, o, rfl, .inr ⟨kvs, e1.fr.ext _ _ h1, q _ F1 H1 x1 e1 ⟨fun i C F2 H2 σ2 ρ2 x2 e2 ok2 hs hi => ?_, fun C F2 H2 σ2 ρ2 x2 e2 ok2 hs => ?_, fun i C F2 H2 σ2 ρ2 v H3 x2 e2 ok2 hs hi y => ?_⟩⟩⟩
    · exact walk_keysT.goes i H2 (by rw [List.length_map] at hi; omega) (e2.fr.ext _ _ (x2 _ _ h1))
    · rw [List.length_map, ← hl]; exact walk_keysT.stops H2 (e2.fr.ext _ _ (x2 _ _ h1))
    · obtain ⟨rfl, k, v0, b, h3, rfl, hb⟩ := walk_keysT.yields i H2 v H3 (by rw [List.length_map] at hi; omega) (e2.fr.ext _ _ (x2 _ _ h1)) y
      obtain ⟨d, h4, h5⟩ := h2.get h3
      have h6 : (ts.map fun p => kDs p.1)[i]? = some (kDs k) := by rw [List.getElem?_map, h4]; rfl
      cases hF : F2 b with
      | none => exact ⟨kDs k, _, h6, .new hF, e2.frzT hb hF, .tup upd_same (keys_rpa k)⟩
      | some u =>
        have hu := e2.fr.ext _ _ hF
        rw [hb] at hu
        cases hu
        exact ⟨kDs k, F2, h6, .refl _, e2, .tup hF (keys_rpa k)⟩
  · refine ⟨a, o, rfl, .inl ⟨[], e1.fr.ext _ _ h1, q _ F1 H1 x1 e1 ⟨fun i C F2 H2 σ2 ρ2 x2 e2 ok2 hs hi => ?_, fun C F2 H2 σ2 ρ2 x2 e2 ok2 hs => ?_, fun i C F2 H2 σ2 ρ2 v H3 x2 e2 ok2 hs hi y => ?_⟩⟩⟩
    · cases hi
    · exact walk_keys.stops H2 (e2.fr.ext _ _ (x2 _ _ h1))
    · cases hi⟩
end
end G

/-! GSort: data of one kind: ==, in, index, count, sorted; parts of tuples. -/
namespace G
open PySem PySem.Spec PyProof.Rows L2
/-! ### == of data of one kind -/
structure EqD {α : Type} [DecidableEq α] (n : Nat) (f : α → PyData) : Prop where
  lay : ∀ a, PyData.canLay0 (f a) = true ∧ PyData.depth (f a) ≤ n
  eqv : ∀ a b, PyData.eqv (f a) (f b) = decide (a = b)
section
variable {α β γ : Type} [DecidableEq α] [DecidableEq β] [DecidableEq γ] {f : α → PyData} {g : β → PyData} {h : γ → PyData} {m n k : Nat}
theorem eqd_int : EqD 1 PyData.int := ⟨lay_int, fun a b => by show (a == b) = _; rw [Bool.beq_eq_decide_eq]⟩
theorem eqd_bl : EqD 1 PyData.bool := ⟨fun _ => ⟨rfl, by simp [PyData.depth]⟩, fun a b => by show (a == b) = _; rw [Bool.beq_eq_decide_eq]⟩
theorem EqD.le (e : EqD m f) (h : m ≤ n) : EqD n f := ⟨fun a => ⟨(e.lay a).1, Nat.le_trans (e.lay a).2 h⟩, e.eqv⟩
theorem eqd_T2 (e : EqD m f) (e2 : EqD m g) : EqD (m + 1) (dT2 f g) := ⟨fun a => by
    have h1 := e.lay a.1
    have h2 := e2.lay a.2
    refine ⟨?_, ?_⟩
    · show (PyData.canLay0 (f a.1) && (PyData.canLay0 (g a.2) && true)) = true
      rw [h1.1, h2.1]; rfl
    · simp only [dT2, PyData.depth, PyData.depthAll]; omega, fun a b => by
    show (PyData.eqv (f a.1) (f b.1) && (PyData.eqv (g a.2) (g b.2) && true)) = _
    rw [e.eqv, e2.eqv, Bool.eq_iff_iff]
    simp [Prod.ext_iff]⟩
theorem eqd_T3 (e : EqD m f) (e2 : EqD m g) (e3 : EqD m h) : EqD (m + 1) (dT3 f g h) := ⟨fun a => by
    have h1 := e.lay a.1
    have h2 := e2.lay a.2.1
    have h3 := e3.lay a.2.2
    refine ⟨?_, ?_⟩
    · show (PyData.canLay0 (f a.1) && (PyData.canLay0 (g a.2.1) && (PyData.canLay0 (h a.2.2) && true))) = true
      rw [h1.1, h2.1, h3.1]; rfl
    · simp only [dT3, PyData.depth, PyData.depthAll]; omega, fun a b => by
    show (PyData.eqv (f a.1) (f b.1) && (PyData.eqv (g a.2.1) (g b.2.1) && (PyData.eqv (h a.2.2) (h b.2.2) && true))) = _
    rw [e.eqv, e2.eqv, e3.eqv, Bool.eq_iff_iff]
    simp [Prod.ext_iff]⟩
theorem eqvAll_map (e : EqD m f) : ∀ xs ys : List α, PyData.eqvAll (xs.map f) (ys.map f) = decide (xs = ys)
  | [], [] => rfl
  | [], _ :: _ => rfl
  | _ :: _, [] => rfl
  | x :: xs, y :: ys => by
    show (PyData.eqv (f x) (f y) && PyData.eqvAll (xs.map f) (ys.map f)) = _
    rw [e.eqv, eqvAll_map e xs ys, Bool.eq_iff_iff]
    simp
theorem eqd_L (e : EqD m f) : EqD (m + 1) (dL f) := ⟨fun xs => by
    have l := lay_map e.lay xs
    exact ⟨l.1, by simp only [dL, PyData.depth]; omega⟩, fun xs ys => eqvAll_map e xs ys⟩
theorem EqD.flat (e : EqD m f) (hm : m ≤ 60) (a : α) : flat (f a) = true := by
  have l := e.lay a
  show (PyData.canLay0 (f a) && decide (PyData.depth (f a) ≤ 64)) = true
  rw [l.1, Bool.true_and, decide_eq_true_eq]
  omega
theorem any_in (e : EqD m f) (v : α) (ns : List α) : ((ns.map f).any fun z => PyData.eqv z (f v)) = decide (v ∈ ns) := by
  rw [List.any_map]
  show (ns.any fun z => PyData.eqv (f z) (f v)) = _
  rw [Bool.eq_iff_iff, List.any_eq_true, decide_eq_true_eq]
  constructor
  · rintro ⟨z, hz, q⟩
    rw [e.eqv, decide_eq_true_eq] at q
    exact q ▸ hz
  · intro hz
    exact ⟨v, hz, by rw [e.eqv]; exact decide_eq_true rfl⟩
end
section
variable {X : Cx} {W : WX} {e a b c tg iter elt o : Expr} {es : List Expr} {p pos pos' p1 p2 : Pos} {ρ ρ' ρ1 ρ2 ρ3 : En} {x y z : PyData} {xs ys : List PyData} {i j : Int} {α β γ : Type} [DecidableEq α] {f : α → PyData} {ns ms : List α} {m : Nat} {u v : α}
theorem td_eqT0 (hu : X.A.units + 65 < cLine) (q : EqD m f) (hm : m ≤ 60) (ha : PD X a ρ (f u) ρ1) (hb : PD X b ρ1 (f v) ρ2) : TD X (.Compare a [.Eq] [b] pos) ρ (decide (u = v)) ρ2 := td_cast (q.eqv u v) (td_eq (by omega) (q.flat hm u) (q.flat hm v) ha hb)
theorem td_neT0 (hu : X.A.units + 65 < cLine) (q : EqD m f) (hm : m ≤ 60) (ha : PD X a ρ (f u) ρ1) (hb : PD X b ρ1 (f v) ρ2) : TD X (.Compare a [.NotEq] [b] pos) ρ (!decide (u = v)) ρ2 := td_cast (by rw [q.eqv u v]) (td_ne (by omega) (q.flat hm u) (q.flat hm v) ha hb)
theorem pd_eqT0 (hu : X.A.units + 65 < cLine) (q : EqD m f) (hm : m ≤ 60) (ha : PD X a ρ (f u) ρ1) (hb : PD X b ρ1 (f v) ρ2) : PD X (.Compare a [.Eq] [b] pos) ρ (.bool (decide (u = v))) ρ2 := pd_cast (congrArg PyData.bool (q.eqv u v)) (pd_eq (by omega) (q.flat hm u) (q.flat hm v) ha hb)
theorem pd_neT0 (hu : X.A.units + 65 < cLine) (q : EqD m f) (hm : m ≤ 60) (ha : PD X a ρ (f u) ρ1) (hb : PD X b ρ1 (f v) ρ2) : PD X (.Compare a [.NotEq] [b] pos) ρ (.bool (!decide (u = v))) ρ2 := pd_cast (by rw [q.eqv u v]) (pd_ne (by omega) (q.flat hm u) (q.flat hm v) ha hb)
theorem dp_lst {K : PySem.W.Frag} {F H : Hp} {l : Addr} {vs : List V} (ex : Ex F H) (s : SqL K H l vs) (r : RpA K F vs (ns.map f)) (q : EqD m f) (hm : m ≤ 60) : Dp K H (.ref l) (.list (ns.map f)) ∧ flat (.list (ns.map f)) = true :=
  ⟨.lst s (dpa_mono ex _ (RpA.dp _ r (lay_map q.lay ns).1)), flat_map q.lay hm ns⟩
theorem pd_inT0 {src : Option Nat} (hu : X.A.units + 65 < cLine) (q : EqD m f) (hm : m ≤ 60) (ha : PD X a ρ (f v) ρ1) (hb : PQ X b ρ1 src (ns.map f) ρ2) (ok : SrcOk ρ2 src (ns.map f)) (hbm : behindInMarks .In b = false := by rfl) : PD X (.Compare a [.In] [b] pos) ρ (.bool (decide (v ∈ ns))) ρ2 :=
  PE_imp (pe_cmpR (op_inD hu) ha hb hbm) fun σ H Q ⟨C, F, se, k⟩ => ⟨C, F, se, fun v0 F1 H1 x1 e1 r1 => ⟨C, F1, e1, fun w F2 H2 x2 e2 r2 => by
    obtain ⟨l, vs, rfl, s, rr⟩ := r2.look e2 ok
    obtain ⟨d1, d2⟩ := dp_lst e2.fr.ext s rr q hm
    exact ⟨f v, _, dp_mono (x2.trans e2.fr.ext) _ (Rp.dp _ r1 (q.lay v).1), d1, q.flat hm v, d2, k _ F2 H2 (x1.trans x2) e2 (by rw [any_in q]; exact .bl _)⟩⟩⟩
theorem pd_notinT0 {src : Option Nat} (hu : X.A.units + 65 < cLine) (q : EqD m f) (hm : m ≤ 60) (ha : PD X a ρ (f v) ρ1) (hb : PQ X b ρ1 src (ns.map f) ρ2) (ok : SrcOk ρ2 src (ns.map f)) (hbm : behindInMarks .NotIn b = false := by rfl) : PD X (.Compare a [.NotIn] [b] pos) ρ (.bool (!decide (v ∈ ns))) ρ2 :=
  PE_imp (pe_cmpR (op_notInD hu) ha hb hbm) fun σ H Q ⟨C, F, se, k⟩ => ⟨C, F, se, fun v0 F1 H1 x1 e1 r1 => ⟨C, F1, e1, fun w F2 H2 x2 e2 r2 => by
    obtain ⟨l, vs, rfl, s, rr⟩ := r2.look e2 ok
    obtain ⟨d1, d2⟩ := dp_lst e2.fr.ext s rr q hm
    exact ⟨f v, _, dp_mono (x2.trans e2.fr.ext) _ (Rp.dp _ r1 (q.lay v).1), d1, q.flat hm v, d2, k _ F2 H2 (x1.trans x2) e2 (by rw [any_in q]; exact .bl _)⟩⟩⟩
theorem td_inT0 {src : Option Nat} (hu : X.A.units + 65 < cLine) (q : EqD m f) (hm : m ≤ 60) (ha : PD X a ρ (f v) ρ1) (hb : PQ X b ρ1 src (ns.map f) ρ2) (ok : SrcOk ρ2 src (ns.map f)) (hbm : behindInMarks .In b = false := by rfl) : TD X (.Compare a [.In] [b] pos) ρ (decide (v ∈ ns)) ρ2 :=
  PT_imp (pt_cmpR (op_inD hu) ha hb hbm) fun σ H Q ⟨C, F, se, k⟩ => ⟨C, F, se, fun v0 F1 H1 x1 e1 r1 => ⟨C, F1, e1, fun w F2 H2 x2 e2 r2 => by
    obtain ⟨l, vs, rfl, s, rr⟩ := r2.look e2 ok
    obtain ⟨d1, d2⟩ := dp_lst e2.fr.ext s rr q hm
    exact ⟨f v, _, dp_mono (x2.trans e2.fr.ext) _ (Rp.dp _ r1 (q.lay v).1), d1, q.flat hm v, d2, _, rfl, by rw [any_in q]; exact k F2 H2 (x1.trans x2) e2⟩⟩⟩
theorem td_notinT0 {src : Option Nat} (hu : X.A.units + 65 < cLine) (q : EqD m f) (hm : m ≤ 60) (ha : PD X a ρ (f v) ρ1) (hb : PQ X b ρ1 src (ns.map f) ρ2) (ok : SrcOk ρ2 src (ns.map f)) (hbm : behindInMarks .NotIn b = false := by rfl) : TD X (.Compare a [.NotIn] [b] pos) ρ (!decide (v ∈ ns)) ρ2 :=
  PT_imp (pt_cmpR (op_notInD hu) ha hb hbm) fun σ H Q ⟨C, F, se, k⟩ => ⟨C, F, se, fun v0 F1 H1 x1 e1 r1 => ⟨C, F1, e1, fun w F2 H2 x2 e2 r2 => by
    obtain ⟨l, vs, rfl, s, rr⟩ := r2.look e2 ok
    obtain ⟨d1, d2⟩ := dp_lst e2.fr.ext s rr q hm
    exact ⟨f v, _, dp_mono (x2.trans e2.fr.ext) _ (Rp.dp _ r1 (q.lay v).1), d1, q.flat hm v, d2, _, rfl, by rw [any_in q]; exact k F2 H2 (x1.trans x2) e2⟩⟩⟩
theorem dec_any {p : Prop} (d d' : Decidable p) : @decide p d = @decide p d' := by rw [Subsingleton.elim d d']
theorem td_inT {src : Option Nat} {dec : Decidable (v ∈ ns)} (hu : X.A.units + 65 < cLine) (q : EqD m f) (hm : m ≤ 60) (ha : PD X a ρ (f v) ρ1) (hb : PQ X b ρ1 src (ns.map f) ρ2) (ok : SrcOk ρ2 src (ns.map f)) (hbm : behindInMarks .In b = false := by rfl) : TD X (.Compare a [.In] [b] pos) ρ (@decide (v ∈ ns) dec) ρ2 := td_cast (dec_any _ _) (td_inT0 hu q hm ha hb ok hbm)
theorem td_notinT {src : Option Nat} {dec : Decidable (v ∈ ns)} (hu : X.A.units + 65 < cLine) (q : EqD m f) (hm : m ≤ 60) (ha : PD X a ρ (f v) ρ1) (hb : PQ X b ρ1 src (ns.map f) ρ2) (ok : SrcOk ρ2 src (ns.map f)) (hbm : behindInMarks .NotIn b = false := by rfl) : TD X (.Compare a [.NotIn] [b] pos) ρ (!@decide (v ∈ ns) dec) ρ2 := td_cast (congrArg _ (dec_any _ _)) (td_notinT0 hu q hm ha hb ok hbm)
theorem pd_inT {src : Option Nat} {dec : Decidable (v ∈ ns)} (hu : X.A.units + 65 < cLine) (q : EqD m f) (hm : m ≤ 60) (ha : PD X a ρ (f v) ρ1) (hb : PQ X b ρ1 src (ns.map f) ρ2) (ok : SrcOk ρ2 src (ns.map f)) (hbm : behindInMarks .In b = false := by rfl) : PD X (.Compare a [.In] [b] pos) ρ (.bool (@decide (v ∈ ns) dec)) ρ2 := pd_cast (congrArg PyData.bool (dec_any _ _)) (pd_inT0 hu q hm ha hb ok hbm)
theorem pd_notinT {src : Option Nat} {dec : Decidable (v ∈ ns)} (hu : X.A.units + 65 < cLine) (q : EqD m f) (hm : m ≤ 60) (ha : PD X a ρ (f v) ρ1) (hb : PQ X b ρ1 src (ns.map f) ρ2) (ok : SrcOk ρ2 src (ns.map f)) (hbm : behindInMarks .NotIn b = false := by rfl) : PD X (.Compare a [.NotIn] [b] pos) ρ (.bool (!@decide (v ∈ ns) dec)) ρ2 := pd_cast (congrArg (fun z => PyData.bool (!z)) (dec_any _ _)) (pd_notinT0 hu q hm ha hb ok hbm)
theorem td_eqT {dec : Decidable (u = v)} (hu : X.A.units + 65 < cLine) (q : EqD m f) (hm : m ≤ 60) (ha : PD X a ρ (f u) ρ1) (hb : PD X b ρ1 (f v) ρ2) : TD X (.Compare a [.Eq] [b] pos) ρ (@decide (u = v) dec) ρ2 := td_cast (dec_any _ _) (td_eqT0 hu q hm ha hb)
theorem td_neT {dec : Decidable (u = v)} (hu : X.A.units + 65 < cLine) (q : EqD m f) (hm : m ≤ 60) (ha : PD X a ρ (f u) ρ1) (hb : PD X b ρ1 (f v) ρ2) : TD X (.Compare a [.NotEq] [b] pos) ρ (!@decide (u = v) dec) ρ2 := td_cast (congrArg _ (dec_any _ _)) (td_neT0 hu q hm ha hb)
theorem pd_eqT {dec : Decidable (u = v)} (hu : X.A.units + 65 < cLine) (q : EqD m f) (hm : m ≤ 60) (ha : PD X a ρ (f u) ρ1) (hb : PD X b ρ1 (f v) ρ2) : PD X (.Compare a [.Eq] [b] pos) ρ (.bool (@decide (u = v) dec)) ρ2 := pd_cast (congrArg PyData.bool (dec_any _ _)) (pd_eqT0 hu q hm ha hb)
theorem pd_neT {dec : Decidable (u = v)} (hu : X.A.units + 65 < cLine) (q : EqD m f) (hm : m ≤ 60) (ha : PD X a ρ (f u) ρ1) (hb : PD X b ρ1 (f v) ρ2) : PD X (.Compare a [.NotEq] [b] pos) ρ (.bool (!@decide (u = v) dec)) ρ2 := pd_cast (congrArg (fun z => PyData.bool (!z)) (dec_any _ _)) (pd_neT0 hu q hm ha hb)
/-! ### a tuple's part -/
theorem cutV_whole {α : Type} (xs : List α) {lo hi : Option Int} (h : HT.sIx xs.length 0 lo = 0 ∧ HT.sIx xs.length xs.length hi = xs.length) : (xs.drop (HT.sIx xs.length 0 lo)).take (HT.sIx xs.length xs.length hi - HT.sIx xs.length 0 lo) = xs := by
  rw [h.1, h.2]; simp
theorem pd_sliceT {lo hi : Option Expr} {ol oh : Option Int} (h : PD X e ρ (.tuple xs) ρ1) (hl : OD X lo ρ1 ol ρ2) (hh : OD X hi ρ2 oh ρ3) : PD X (.Subscript e (.Slice lo hi none p2) pos) ρ (.tuple (cutD xs ol oh)) ρ3 :=
  PE_imp (pe_slice sl_tupA h hl hh) fun σ H Q ⟨C, F, se, q⟩ => ⟨C, F, se, fun v F1 H1 x1 e1 r1 => ⟨C, F1, e1, fun F2 H2 x2 e2 => ⟨C, F2, e2, fun F3 H3 x3 e3 => by
    cases r1 with
    | @tup l vs _ h1 h2 =>
      have hF := x3 _ _ (x2 _ _ h1)
      have rr := h2.mono (x2.trans x3)
      refine ⟨l, vs, rfl, SqT.of (e3.fr.ext _ _ hF), fun hw => ?_, fun hw p hp => ?_⟩
      · have hw' : HT.sIx xs.length 0 ol = 0 ∧ HT.sIx xs.length xs.length oh = xs.length := by rw [← h2.length]; exact hw
        refine q _ F3 H3 (x1.trans (x2.trans x3)) e3 ?_
        unfold cutD
        rw [cutV_whole xs hw']
        exact .tup hF rr
      · refine q (.ref p) _ _ (x1.trans (x2.trans (x3.trans (.new (e3.fr.ext.none hp))))) (e3.grow (.push e3.fr.ext hp)) (.tup upd_same ?_)
        refine RpA.mono (.new (e3.fr.ext.none hp)) ?_
        unfold cutV cutD
        rw [rr.length]
        exact (rr.drop _).take _⟩⟩⟩
/-- t + u of tuples -/
theorem pd_addT (ha : PD X a ρ (.tuple xs) ρ1) (hb : PD X b ρ1 (.tuple ys) ρ2) (hl : xs.length + ys.length ≤ 100000) : PD X (.BinOp a .Add b pos) ρ (.tuple (xs ++ ys)) ρ2 :=
  pd_op op_catA (fun F H v w Q ex r1 r2 q => by
    cases r1 with
    | @tup l vs _ h1 h2 =>
      cases r2 with
      | @tup l' us _ g1 g2 =>
        refine ⟨l, l', vs, us, rfl, rfl, SqT.of (ex _ _ h1), SqT.of (ex _ _ g1), by rw [h2.length, g2.length]; exact line_of hl, fun z => ?_, fun _ z => ?_, fun _ _ p hp => ?_⟩
        · subst z
          cases h2
          exact q _ F H (.refl ex) (.tup g1 g2)
        · subst z
          cases g2
          refine q _ F H (.refl ex) ?_
          rw [List.append_nil]
          exact .tup h1 h2
        · exact q _ _ _ (.push ex hp) (.tup upd_same ((h2.append g2).mono (.new (ex.none hp))))) ha hb
/-! ### sorted -/
open PySem.W in
theorem cr_sortedD : CallR X (.builtin "sorted") (fun zs H Q => ∃ (a : Addr) (vs : List V) (ds : List PyData), zs = [.ref a] ∧ SqL X.K H a vs ∧ DpAll X.K H vs ds ∧ AllAlike ds ∧ Sortable ds ∧ (∀ d ∈ ds, X.A.units + 2 + d.depth < cLine) ∧
    ∀ p, H p = none → Q (.ref p) (upd H p (.lst (((vs.zip ds).mergeSort (dataLe false fun b : V × PyData => b.2)).map (·.1))))) := by
  intro pins s σ H zs us Q I r h
  obtain ⟨a, vs, ds, rfl, hs, dp, hal, hk, hu, q⟩ := h
  obtain ⟨its, rv, hl, hz⟩ := I.list hs
  rw [Vals.ref1 r]
  obtain ⟨as, ra⟩ := Dp.readsAll I ds vs its dp rv
  have e : ∀ {vs : List V} {ds : List PyData} {its : List Value} {as : List Addr}, Vals vs its → ReadsAll s.heap its ds as → EachIs (fun v (b : V × PyData) => RelV b.1 v) its (vs.zip ds) ∧ EachIs (fun v (b : V × PyData) => ∃ as, Reads s.heap v b.2 as) its (vs.zip ds) ∧ (vs.zip ds).map (·.2) = ds ∧ vs.length = ds.length := by
    intro vs ds its as rv ra
    induction rv generalizing ds as with
    | nil => cases ra; exact ⟨.nil, .nil, rfl, rfl⟩
    | cons h1 h2 ih =>
      cases ra with
      | cons g1 g2 =>
        obtain ⟨i1, i2, i3, i4⟩ := ih g2
        exact ⟨.cons h1 i1, .cons ⟨_, g1⟩ i2, congrArg _ i3, congrArg (· + 1) i4⟩
  obtain ⟨e1, e2, e3, e4⟩ := e rv ra
  have hzl : (vs.zip ds).length = vs.length := by rw [List.length_zip, e4, Nat.min_self]
  refine sorted_data (enc := fun b : V × PyData => b.2) hl.isList e1 e2 (by rw [e3]; exact hal) (by rw [e3]; exact hk) (by rw [hzl]; exact hz) (fun b hb => hu _ (by rw [← e3]; exact List.mem_map.mpr ⟨b, hb, rfl⟩)) fun out h1 h2 => ?_
  obtain ⟨ep, he'⟩ := PyProof.Rows.sortedAll_at s.heap its out.toArray
  have vo : ∀ {out : List Value} {bs : List (V × PyData)}, EachIs (fun v (b : V × PyData) => RelV b.1 v) out bs → Vals (bs.map (·.1)) out := by
    intro out bs h
    induction h with
    | nil => exact .nil
    | cons h1 _ ih => exact .cons h1 ih
  have hlen : (((vs.zip ds).mergeSort (dataLe false fun b : V × PyData => b.2)).map (·.1)).length ≤ sizeLine := by
    rw [List.length_map, List.length_mergeSort, hzl]; exact hz
  exact ⟨.ref _, upd H (s.heap.objs.size + 1) (.lst _), I.laid (t' := s.toks) (fun _ _ => PyProof.Rows.sortedAll_old) (Nat.le_succ _) ⟨hlen, out, ep, vo h2, he'⟩, rfl, q _ (I.hok.fresh (Nat.le_succ _))⟩
theorem rpa_of {K : PySem.W.Frag} {F : Hp} : ∀ {bs : List (V × PyData)}, (∀ b ∈ bs, Rp K F b.1 b.2) → RpA K F (bs.map (·.1)) (bs.map (·.2))
  | [], _ => .nil
  | b :: bs, h => .cons (h b List.mem_cons_self) (rpa_of fun z hz => h z (List.mem_cons_of_mem _ hz))
theorem rpa_mem {K : PySem.W.Frag} {F : Hp} : ∀ {vs : List V} {ds : List PyData}, RpA K F vs ds → (∀ b ∈ vs.zip ds, Rp K F b.1 b.2) ∧ (vs.zip ds).map (·.2) = ds
  | _, _, .nil => ⟨fun _ h => (by cases h), rfl⟩
  | _, _, .cons h t => ⟨fun b hb => (List.mem_cons.mp hb).elim (fun z => z ▸ h) ((rpa_mem t).1 b), congrArg _ (rpa_mem t).2⟩
/-- data in order -/
def srtD {α : Type} (f : α → PyData) (ns : List α) : List α := ns.mergeSort (PySem.W.dataLe false f)
theorem map_srt {α : Type} (f : α → PyData) (ns : List α) : (ns.map f).mergeSort (PySem.W.dataLe false fun d : PyData => d) = (srtD f ns).map f :=
  (List.map_mergeSort (r := PySem.W.dataLe false f) (s := PySem.W.dataLe false fun d : PyData => d) (f := f) (l := ns) fun _ _ _ _ => rfl).symm
theorem pn_sortedT {α : Type} {f : α → PyData} {ns : List α} {src : Option Nat} (hu : X.A.units + 65 < cLine) (hlay : ∀ a, PyData.canLay0 (f a) = true ∧ PyData.depth (f a) ≤ 60) (hal : ∀ a b, PySem.W.alike (f a) (f b) = true) (hk : PySem.W.Sortable (ns.map f)) (hm : X.mg ("sorted" : Str) = none) (h : PQ X a ρ src (ns.map f) ρ1) (ok : SrcOk ρ1 src (ns.map f)) (hg : Gl X "sorted" := by rfl) (he : starEach [a] X.env = (false, eval a X.env) :: starEach [] X.env := by rfl) : PN X (.Call (.Name "sorted" p) [a] [] pos) ρ (.l ((srtD f ns).map f)) ρ1 :=
  PE_imp (pe_callB cr_sortedD hg hm rfl (pa_cons h pa_nil he) (by decide) (by decide) he) fun σ H Q ⟨C, F, se, q⟩ => ⟨C, F, se, fun v F1 H1 x1 e1 r1 => by
    obtain ⟨l, vs, rfl, s, rr⟩ := r1.look e1 ok
    refine ⟨l, vs, ns.map f, rfl, s, dpa_mono e1.fr.ext _ (RpA.dp _ rr (lay_map hlay ns).1), PySem.W.AllAlike.of hal, hk, fun d hd => ?_, fun p hn => ?_⟩
    · obtain ⟨z, _, rfl⟩ := List.mem_map.mp hd
      have := (hlay z).2
      omega
    · obtain ⟨h1, h2, h3, h4⟩ := e1.lay (o := .lst (((vs.zip (ns.map f)).mergeSort (PySem.W.dataLe false fun b : V × PyData => b.2)).map (·.1))) hn
      refine q p F1 _ x1 h1 h2 h3 h4 ⟨_, upd_same, ?_⟩
      have rm := rpa_mem rr
      have e : (((vs.zip (ns.map f)).mergeSort (PySem.W.dataLe false fun b : V × PyData => b.2)).map (·.2)) = (srtD f ns).map f := by
        have e0 := List.map_mergeSort (r := PySem.W.dataLe false fun b : V × PyData => b.2) (s := PySem.W.dataLe false fun d : PyData => d) (f := fun b : V × PyData => b.2) (l := vs.zip (ns.map f)) fun _ _ _ _ => rfl
        rw [e0, rm.2, map_srt]
      rw [← e]
      exact rpa_of fun b hb => rm.1 b ((List.mergeSort_perm _ _).mem_iff.mp hb)⟩
end
end G

/-! GOrd: orders of data of one kind; names. -/
namespace G
open PySem PySem.Spec PyProof.Rows L2
/-! ### names -/
def nmOk (s : Str) : Bool := (s.cps.all fun c => decide (97 ≤ c) && decide (c ≤ 122)) && (decide (1 ≤ s.cps.size) && decide (s.cps.size ≤ 12))
abbrev Nm : Type := { s : Str // nmOk s = true }
abbrev dNm (n : Nm) : PyData := .str n.1
instance : Inhabited Nm := ⟨⟨"a", by decide +kernel⟩⟩
theorem nm_strOk (n : Nm) : PyData.strOk n.1 = true := by
  have h := n.2
  unfold nmOk at h
  rw [Bool.and_eq_true] at h
  unfold PyData.strOk
  rw [Array.all_eq_true] at h ⊢
  intro i hi
  have := h.1 i hi
  simp only [Bool.and_eq_true, decide_eq_true_eq] at this ⊢
  omega
theorem nm_len (n : Nm) : 1 ≤ n.1.length ∧ n.1.length ≤ 12 := by
  have h := n.2
  unfold nmOk at h
  simp only [Bool.and_eq_true, decide_eq_true_eq] at h
  exact h.2
theorem eqd_nm : EqD 1 dNm := ⟨fun n => ⟨nm_strOk n, by simp [PyData.depth]⟩, fun a b => by
  show (a.1 == b.1) = _
  rw [Bool.beq_eq_decide_eq, Bool.eq_iff_iff]
  simp [Subtype.ext_iff]⟩
/-! ### orders -/
structure LtD {α : Type} (f : α → PyData) (lt : α → α → Bool) : Prop where
  al : ∀ a b, PySem.W.alike (f a) (f b) = true
  lt : ∀ a b, PySem.W.dataLt (f a) (f b) = lt a b
/-- strict and total -/
structure STO {α : Type} (lt : α → α → Bool) : Prop where
  irr : ∀ a, lt a a = false
  tr : ∀ a b c, lt a b = true → lt b c = true → lt a c = true
  tot : ∀ a b, a ≠ b → lt a b = true ∨ lt b a = true
theorem STO.asymm {α : Type} {lt : α → α → Bool} (s : STO lt) {a b : α} (h : lt a b = true) : lt b a = false := by
  cases q : lt b a with
  | false => rfl
  | true => have := s.tr a b a h q; rw [s.irr] at this; cases this
abbrev ltI (a b : Int) : Bool := decide (a < b)
abbrev ltS (a b : Str) : Bool := decide (a.cps.toList < b.cps.toList)
abbrev ltN (a b : Nm) : Bool := ltS a.1 b.1
def lt2 {α β : Type} [DecidableEq α] (lt : α → α → Bool) (lu : β → β → Bool) (p q : α × β) : Bool := if p.1 = q.1 then lu p.2 q.2 else lt p.1 q.1
def lt3 {α β γ : Type} [DecidableEq α] [DecidableEq β] (lt : α → α → Bool) (lu : β → β → Bool) (lv : γ → γ → Bool) (p q : α × β × γ) : Bool := if p.1 = q.1 then (if p.2.1 = q.2.1 then lv p.2.2 q.2.2 else lu p.2.1 q.2.1) else lt p.1 q.1
def ltL {α : Type} [DecidableEq α] (lt : α → α → Bool) : List α → List α → Bool
  | [], [] => false
  | [], _ :: _ => true
  | _ :: _, [] => false
  | x :: xs, y :: ys => if x = y then ltL lt xs ys else lt x y
theorem sto_I : STO ltI := ⟨fun a => by simp, fun a b c h1 h2 => by simp at *; omega, fun a b h => by simp; omega⟩
theorem cps_inj {a b : Str} (h : a.cps.toList = b.cps.toList) : a = b := by
  cases a; cases b; simpa using Array.toList_inj.mp h
theorem sto_S : STO ltS := ⟨fun a => by simp [List.lt_irrefl], fun a b c h1 h2 => by simp only [decide_eq_true_eq] at *; exact List.lt_trans h1 h2, fun a b h => by
  simp only [decide_eq_true_eq]
  rcases Classical.em (a.cps.toList < b.cps.toList) with q | q
  · exact .inl q
  · right
    have h1 : b.cps.toList ≤ a.cps.toList := List.not_lt.mp q
    rcases Classical.em (b.cps.toList < a.cps.toList) with z | z
    · exact z
    · exact absurd (cps_inj (List.le_antisymm (List.not_lt.mp z) h1)) h⟩
theorem sto_N : STO ltN := ⟨fun a => sto_S.irr _, fun a b c => sto_S.tr _ _ _, fun a b h => sto_S.tot _ _ (fun z => h (Subtype.ext z))⟩
theorem sto_2 {α β : Type} [DecidableEq α] {lt : α → α → Bool} {lu : β → β → Bool} (s : STO lt) (t : STO lu) : STO (lt2 lt lu) := ⟨fun a => by
    unfold lt2; rw [if_pos rfl]; exact t.irr _, fun a b c h1 h2 => by
    unfold lt2 at *
    by_cases e1 : a.1 = b.1
    · rw [if_pos e1] at h1
      by_cases e2 : b.1 = c.1
      · rw [if_pos e2] at h2; rw [if_pos (e1.trans e2)]; exact t.tr _ _ _ h1 h2
      · rw [if_neg e2] at h2; rw [if_neg (by rw [e1]; exact e2), e1]; exact h2
    · rw [if_neg e1] at h1
      by_cases e2 : b.1 = c.1
      · rw [if_neg (by rw [← e2]; exact e1), ← e2]; exact h1
      · rw [if_neg e2] at h2
        have h3 := s.tr _ _ _ h1 h2
        rw [if_neg (fun z => by rw [z, s.irr] at h3; cases h3)]; exact h3, fun a b h => by
    unfold lt2
    by_cases e : a.1 = b.1
    · rw [if_pos e, if_pos e.symm]
      exact t.tot _ _ (fun z => h (Prod.ext e z))
    · rw [if_neg e, if_neg (fun z => e z.symm)]; exact s.tot _ _ e⟩
theorem lt3_eq {α β γ : Type} [DecidableEq α] [DecidableEq β] (lt : α → α → Bool) (lu : β → β → Bool) (lv : γ → γ → Bool) : lt3 lt lu lv = lt2 lt (lt2 lu lv) := rfl
theorem sto_3 {α β γ : Type} [DecidableEq α] [DecidableEq β] {lt : α → α → Bool} {lu : β → β → Bool} {lv : γ → γ → Bool} (s : STO lt) (t : STO lu) (u : STO lv) : STO (lt3 lt lu lv) := by rw [lt3_eq]; exact sto_2 s (sto_2 t u)
theorem sto_L {α : Type} [DecidableEq α] {lt : α → α → Bool} (s : STO lt) : STO (ltL lt) := by
  refine ⟨fun a => ?_, fun a => ?_, fun a => ?_⟩
  · induction a with
    | nil => rfl
    | cons x xs ih => show (if x = x then ltL lt xs xs else _) = false; rw [if_pos rfl]; exact ih
  · induction a with
    | nil =>
      intro b c h1 h2
      cases b with
      | nil => cases h1
      | cons y ys =>
        cases c with
        | nil => cases h2
        | cons z zs => rfl
    | cons x xs ih =>
      intro b c h1 h2
      cases b with
      | nil => cases h1
      | cons y ys =>
        cases c with
        | nil => cases h2
        | cons z zs =>
          have h1 : (if x = y then ltL lt xs ys else lt x y) = true := h1
          have h2 : (if y = z then ltL lt ys zs else lt y z) = true := h2
          show (if x = z then ltL lt xs zs else lt x z) = true
          by_cases e1 : x = y
          · rw [if_pos e1] at h1
            by_cases e2 : y = z
            · rw [if_pos e2] at h2; rw [if_pos (e1.trans e2)]; exact ih _ _ h1 h2
            · rw [if_neg e2] at h2; rw [if_neg (by rw [e1]; exact e2), e1]; exact h2
          · rw [if_neg e1] at h1
            by_cases e2 : y = z
            · rw [if_neg (by rw [← e2]; exact e1), ← e2]; exact h1
            · rw [if_neg e2] at h2
              have h3 := s.tr _ _ _ h1 h2
              rw [if_neg (fun z => by rw [z, s.irr] at h3; cases h3)]; exact h3
  · induction a with
    | nil =>
      intro b h
      cases b with
      | nil => exact absurd rfl h
      | cons y ys => exact .inl rfl
    | cons x xs ih =>
      intro b h
      cases b with
      | nil => exact .inr rfl
      | cons y ys =>
        show (if x = y then ltL lt xs ys else lt x y) = true ∨ (if y = x then ltL lt ys xs else lt y x) = true
        by_cases e : x = y
        · rw [if_pos e, if_pos e.symm]
          exact ih _ (fun z => h (by rw [e, z]))
        · rw [if_neg e, if_neg (fun z => e z.symm)]; exact s.tot _ _ e
open PySem.W
theorem ltd_int : LtD PyData.int ltI := ⟨fun _ _ => rfl, fun a b => dataLt_int a b⟩
theorem ltd_nm : LtD dNm ltN := ⟨fun _ _ => rfl, fun a b => dataLt_str a.1 b.1⟩
theorem row_cons {x y : PyData} (h : alike x y = true) (xs ys : List PyData) : rowLt (x :: xs) (y :: ys) = if PyData.eqv x y = true then rowLt xs ys else dataLt x y := dataLt_cons h xs ys
theorem row_nil : rowLt [] [] = false := by unfold rowLt keyToksAll; simp only [PyProof.Rows.lexLt]; decide
theorem row_nc (y : PyData) (ys : List PyData) : rowLt [] (y :: ys) = true := by
  show PyProof.Rows.lexLt itemOrd [.inl 0] (.inl 1 :: (keyToks y ++ keyToksAll ys)) = true
  rw [PyProof.Rows.lex_diff (O := itemOrd) (by intro z; cases z)]
  rfl
theorem row_cn (y : PyData) (ys : List PyData) : rowLt (y :: ys) [] = false := by
  show PyProof.Rows.lexLt itemOrd (.inl 1 :: (keyToks y ++ keyToksAll ys)) [.inl 0] = false
  rw [PyProof.Rows.lex_diff (O := itemOrd) (by intro z; cases z)]
  rfl
section
variable {α β γ : Type} [DecidableEq α] [DecidableEq β] [DecidableEq γ] {f : α → PyData} {g : β → PyData} {h : γ → PyData} {m n k : Nat} {lt : α → α → Bool} {lu : β → β → Bool} {lv : γ → γ → Bool}
theorem ltd_T2 (e : EqD m f) (a : LtD f lt) (e2 : EqD n g) (b : LtD g lu) (s : STO lu) : LtD (dT2 f g) (lt2 lt lu) := ⟨fun p q => by
    show alikeAll [f p.1, g p.2] [f q.1, g q.2] = true
    simp only [alikeAll, a.al, b.al, Bool.and_true], fun p q => by
    show rowLt [f p.1, g p.2] [f q.1, g q.2] = _
    unfold lt2
    rw [row_cons (a.al _ _), e.eqv, a.lt, row_cons (b.al _ _), e2.eqv, b.lt, row_nil]
    by_cases h1 : p.1 = q.1
    · rw [if_pos h1, if_pos (decide_eq_true h1)]
      by_cases h2 : p.2 = q.2
      · rw [if_pos (decide_eq_true h2), h2, s.irr]
      · rw [if_neg (by simpa using h2)]
    · rw [if_neg h1, if_neg (by simpa using h1)]⟩
theorem ltd_T3 (e : EqD m f) (a : LtD f lt) (e2 : EqD n g) (b : LtD g lu) (e3 : EqD k h) (c : LtD h lv) (s : STO lv) : LtD (dT3 f g h) (lt3 lt lu lv) := ⟨fun p q => by
    show alikeAll [f p.1, g p.2.1, h p.2.2] [f q.1, g q.2.1, h q.2.2] = true
    simp only [alikeAll, a.al, b.al, c.al, Bool.and_true], fun p q => by
    show rowLt [f p.1, g p.2.1, h p.2.2] [f q.1, g q.2.1, h q.2.2] = _
    unfold lt3
    rw [row_cons (a.al _ _), e.eqv, a.lt, row_cons (b.al _ _), e2.eqv, b.lt, row_cons (c.al _ _), e3.eqv, c.lt, row_nil]
    by_cases h1 : p.1 = q.1
    · rw [if_pos h1, if_pos (decide_eq_true h1)]
      by_cases h2 : p.2.1 = q.2.1
      · rw [if_pos (decide_eq_true h2), if_pos h2]
        by_cases h3 : p.2.2 = q.2.2
        · rw [if_pos (decide_eq_true h3), h3, s.irr]
        · rw [if_neg (by simpa using h3)]
      · rw [if_neg (by simpa using h2), if_neg h2]
    · rw [if_neg h1, if_neg (by simpa using h1)]⟩
theorem al_all (a : LtD f lt) : ∀ xs ys : List α, alikeAll (xs.map f) (ys.map f) = true
  | [], [] => by simp [alikeAll]
  | [], _ :: _ => by simp [alikeAll]
  | _ :: _, [] => by simp [alikeAll]
  | x :: xs, y :: ys => by
    show alikeAll (f x :: xs.map f) (f y :: ys.map f) = true
    rw [alikeAll, a.al, al_all a xs ys]; rfl
theorem row_map (e : EqD m f) (a : LtD f lt) : ∀ xs ys : List α, rowLt (xs.map f) (ys.map f) = ltL lt xs ys
  | [], [] => row_nil
  | [], _ :: _ => row_nc _ _
  | _ :: _, [] => row_cn _ _
  | x :: xs, y :: ys => by
    show rowLt (f x :: xs.map f) (f y :: ys.map f) = if x = y then ltL lt xs ys else lt x y
    rw [row_cons (a.al _ _), e.eqv, a.lt, row_map e a xs ys]
    by_cases h : x = y
    · rw [if_pos h, if_pos (decide_eq_true h)]
    · rw [if_neg h, if_neg (by simpa using h)]
theorem ltd_L (e : EqD m f) (a : LtD f lt) : LtD (dL f) (ltL lt) := ⟨fun p q => al_all a p q, fun p q => row_map e a p q⟩
end
/-! ### what sorted gives -/
section
variable {α : Type} {f : α → PyData} {lt : α → α → Bool}
theorem srtD_perm (f : α → PyData) (ns : List α) : (srtD f ns).Perm ns := List.mergeSort_perm ns _
theorem srtD_len (f : α → PyData) (ns : List α) : (srtD f ns).length = ns.length := (srtD_perm f ns).length_eq
theorem srtD_mem {f : α → PyData} {ns : List α} {x : α} : x ∈ srtD f ns ↔ x ∈ ns := (srtD_perm f ns).mem_iff
theorem le_of (l : LtD f lt) (a b : α) : dataLe false f a b = !lt b a := by
  rw [dataLe_eq]
  show (!dataLt (f b) (f a)) = _
  rw [l.lt]
theorem srtD_ord (l : LtD f lt) (s : STO lt) (ns : List α) : (srtD f ns).Pairwise (fun a b => lt b a = false) := by
  have h := List.pairwise_mergeSort (le := dataLe false f) (fun a b c h1 h2 => by
    rw [le_of l] at *
    simp only [Bool.not_eq_true'] at *
    cases q : lt c a with
    | false => rfl
    | true =>
      by_cases e : a = b
      · subst e; rw [h2] at q; cases q
      · rcases s.tot _ _ e with z | z
        · have := s.tr _ _ _ q z; rw [h2] at this; cases this
        · rw [h1] at z; cases z) (fun a b => by
    rw [le_of l, le_of l]
    cases q : lt b a with
    | false => rfl
    | true => rw [s.asymm q]; rfl) ns
  exact h.imp fun h => by rw [le_of l] at h; simpa using h
theorem ordD_one (s : STO lt) {a b : List α} (hp : a.Perm b) (ha : a.Pairwise fun a b => lt b a = false) (hb : b.Pairwise fun a b => lt b a = false) : a = b :=
  hp.eq_of_pairwise (fun x y _ _ h1 h2 => by
    rcases Classical.em (x = y) with e | e
    · exact e
    · rcases s.tot _ _ e with z | z
      · rw [h2] at z; cases z
      · rw [h1] at z; cases z) ha hb
theorem srtD_of (l : LtD f lt) (s : STO lt) {a b : List α} (hp : a.Perm b) (ha : a.Pairwise fun a b => lt b a = false) : a = srtD f b := ordD_one s (hp.trans (srtD_perm f b).symm) ha (srtD_ord l s b)
theorem srtD_perm_eq (l : LtD f lt) (s : STO lt) {a b : List α} (hp : a.Perm b) : srtD f a = srtD f b := srtD_of l s ((srtD_perm f a).trans hp) (srtD_ord l s a)
theorem srtD_id (l : LtD f lt) (s : STO lt) {a : List α} (ha : a.Pairwise fun a b => lt b a = false) : srtD f a = a := (srtD_of l s (List.Perm.refl a) ha).symm
end
theorem sbl_T2 {α β : Type} {f : α → PyData} {g : β → PyData} (ns : List (α × β)) : Sortable (ns.map (dT2 f g)) := .tuples fun b => ⟨_, _, rfl⟩
theorem sbl_T3 {α β γ : Type} {f : α → PyData} {g : β → PyData} {h : γ → PyData} (ns : List (α × β × γ)) : Sortable (ns.map (dT3 f g h)) := .tuples fun b => ⟨_, _, rfl⟩
theorem sbl_I (ns : List Int) : Sortable (ns.map PyData.int) := .others fun b => ⟨fun z => (by cases z), fun _ z => (by cases z)⟩
theorem sbl_N (ns : List Nm) : Sortable (ns.map dNm) := .others fun b => ⟨fun z => (by cases z), fun _ z => (by cases z)⟩
theorem sbl_L {α : Type} {f : α → PyData} (ns : List (List α)) : Sortable (ns.map (dL f)) := .others fun b => ⟨fun z => (by cases z), fun _ z => (by cases z)⟩
end G

/-! GTail: chains of three, ranges downwards, sums of ints and True, index, count. -/
namespace G
open PySem PySem.Spec PyProof.Rows L2
section
variable {X : Cx} {W : WX} {e a b c d tg iter elt o : Expr} {es : List Expr} {p pos pos' p1 p2 : Pos} {ρ ρ' ρ1 ρ2 ρ3 : En} {x y z : PyData} {xs ys : List PyData} {i j l m : Int}
theorem td_chain3 {op op' op'' : CmpOp} {f g h : Int → Int → Bool} (hf : cmpI op = some f) (hg : cmpI op' = some g) (hh : cmpI op'' = some h) (ha : PD X a ρ (.int i) ρ1) (hb : PD X b ρ1 (.int j) ρ2) (hc : PD X c ρ2 (.int l) ρ2) (hd : PD X d ρ2 (.int m) ρ2)
    (hm : lastMarks [op, op', op''] [b, c, d] = false := by with_unfolding_all rfl) : TD X (.Compare a [op, op', op''] [b, c, d] pos) ρ (f i j && (g j l && h l m)) ρ2 := by
  refine ⟨fun pins s σ H Q I ⟨C, F, se, q⟩ => ?_⟩
  refine isTrue_chain (thn (ha.run pins s σ H (fun v H1 => ∃ F1, Ex F F1 ∧ SE X.K C F1 H1 σ ρ1 ∧ v = .int i) I ⟨C, F, se, fun v F1 H1 x1 e1 r1 => ⟨F1, x1, e1, rp_int r1⟩⟩) fun v s1 ⟨xv, H1, I1, r1, F1, x1, e1, q1⟩ => test_link (thn (hb.run pins s1 σ H1 (fun v H2 => ∃ F2, Ex F F2 ∧ SE X.K C F2 H2 σ ρ2 ∧ v = .int j) I1 ⟨C, F1, e1, fun v F2 H2 x2 e2 r2 => ⟨F2, x1.trans x2, e2, rp_int r2⟩⟩) fun u s2 ⟨yv, H2, I2, r2, F2, x2, e2, q2⟩ => ?_)) hm
  subst q1 q2
  refine thn (op_cmpI hf pins s2 σ H2 _ _ v u (fun z H3 => H3 = H2 ∧ z = .bl (f i j)) I2 r1 r2 ⟨i, j, rfl, rfl, rfl, rfl⟩) fun dv s3 ⟨z, H3, I3, r3, eh, ez⟩ => ?_
  subst eh ez
  cases r3
  refine wpAny_truthy_bool ?_
  cases k1 : f i j with
  | false =>
    exact ite_ff ⟨H3, I3, by have := q F2 H3 x2 e2; rw [k1, Bool.false_and] at this; exact this⟩
  | true =>
    refine ite_tt (test_link (thn (hc.run pins s3 σ H3 (fun v H4 => ∃ F3, Ex F F3 ∧ SE X.K C F3 H4 σ ρ2 ∧ v = .int l) I3 ⟨C, F2, e2, fun v F3 H4 x3 e3 r3 => ⟨F3, x2.trans x3, e3, rp_int r3⟩⟩) fun u2 s4 ⟨wv, H4, I4, r4, F3, x3, e3, q3⟩ => ?_))
    subst q3
    refine thn (op_cmpI hg pins s4 σ H4 _ _ u u2 (fun z H5 => H5 = H4 ∧ z = .bl (g j l)) I4 r2 r4 ⟨j, l, rfl, rfl, rfl, rfl⟩) fun dv2 s5 ⟨z2, H5, I5, r5, eh2, ez2⟩ => ?_
    subst eh2 ez2
    cases r5
    refine wpAny_truthy_bool ?_
    cases k2 : g j l with
    | false =>
      exact ite_ff ⟨H5, I5, by have := q F3 H5 x3 e3; rw [k1, k2, Bool.false_and, Bool.true_and] at this; exact this⟩
    | true =>
      refine ite_tt (test_last (thn (hd.run pins s5 σ H5 (fun v H6 => ∃ F4, Ex F F4 ∧ SE X.K C F4 H6 σ ρ2 ∧ v = .int m) I5 ⟨C, F3, e3, fun v F4 H6 x4 e4 r6 => ⟨F4, x3.trans x4, e4, rp_int r6⟩⟩) fun u3 s6 ⟨tv, H6, I6, r6, F4, x4, e4, q4⟩ => ?_))
      subst q4
      refine thn (op_cmpI hh pins s6 σ H6 _ _ u2 u3 (fun z H7 => H7 = H6 ∧ z = .bl (h l m)) I6 r4 r6 ⟨l, m, rfl, rfl, rfl, rfl⟩) fun dv3 s7 ⟨z3, H7, I7, r7, eh3, ez3⟩ => ?_
      subst eh3 ez3
      cases r7
      refine wpAny_truthy_bool ⟨H7, I7, ?_⟩
      have := q F4 H7 x4 e4
      rw [k1, k2, Bool.true_and, Bool.true_and] at this
      exact this
/-! ### range(m, n, -1) -/
def rgDn (m n : Int) : List Int := (List.range (m - n).toNat).map fun i : Nat => m - (i : Int)
theorem rgDn_len (m n : Int) : (rgDn m n).length = (m - n).toNat := by unfold rgDn; rw [List.length_map, List.length_range]
theorem rgDn_get {m n : Int} {i : Nat} (h : i < (m - n).toNat) : (rgDn m n)[i]? = some (m - (i : Int)) := by
  unfold rgDn; rw [List.getElem?_map, List.getElem?_range h]; rfl
theorem id_rangeDn {m n : Int} (hm : X.mg "range" = none) (ha : PD X a ρ (.int m) ρ1) (hb : PD X b ρ1 (.int n) ρ2) (hc : PD X c ρ2 (.int (-1)) ρ3) (h1 : -(2 ^ 62) ≤ m) (h2 : m < 2 ^ 62) (h3 : -(2 ^ 62) ≤ n) (h4 : n < 2 ^ 62) (hg : Gl X "range" := by rfl)
    (hs : starEach [a, b, c] X.env = (false, eval a X.env) :: starEach [b, c] X.env := by rfl) (hs2 : starEach [b, c] X.env = (false, eval b X.env) :: starEach [c] X.env := by rfl) (hs3 : starEach [c] X.env = (false, eval c X.env) :: starEach [] X.env := by rfl) (hpl : (backTo pos (starEach [b, c] X.env)).any (·.1) = false := by rfl) :
    ID X tg (.Call (.Name "range" p) [a, b, c] [] pos) ρ ((rgDn m n).map .int) (fun _ => True) none ρ3 :=
  PI_imp (pi_range3 hg hm (ad_cons ha (ad_cons hb (ad_cons hc ad_nil hs3) hs2) hs) hs hpl) fun σ H R ⟨C, F, se, q⟩ => ⟨C, F, se, fun vs F1 H1 x1 e1 r1 => by
    cases r1 with
    | cons a1 a2 =>
      cases a2 with
      | cons a2 a3 =>
        cases a3 with
        | cons a3 a4 =>
          cases a4
          rw [rp_int a1, rp_int a2, rp_int a3]
          refine ⟨m, n, -1, _, rfl, RgC.neg h1 h2 h3 h4, q _ F1 H1 x1 e1 ⟨fun i C F2 H2 σ2 ρ2 x2 e2 ok2 hs hi => ?_, fun C F2 H2 σ2 ρ2 x2 e2 ok2 hs => ?_, fun i C F2 H2 σ2 ρ2 v H3 x2 e2 ok2 hs hi y => ?_⟩⟩
          · exact walk_rangeC.goes i H2 (by rw [List.length_map, rgDn_len] at hi; exact hi) trivial
          · rw [List.length_map, rgDn_len]; exact walk_rangeC.stops H2 trivial
          · rw [List.length_map, rgDn_len] at hi
            obtain ⟨rfl, rfl⟩ := walk_rangeC.yields i H2 v H3 hi trivial y
            refine ⟨.int (m - (i : Int)), F2, by rw [List.getElem?_map, rgDn_get hi]; rfl, .refl _, e2, ?_⟩
            show Rp X.K F2 (V.int (m + ((i : Nat) : Int) * (-1))) _
            rw [show m + ((i : Nat) : Int) * (-1) = m - (i : Int) by omega]
            exact .int _⟩
/-! ### sum of ints and True -/
def vV : Option Int → V
  | none => .bl true
  | some i => .int i
theorem rpa_V {K : PySem.W.Frag} {F : Hp} : ∀ {ns : List (Option Int)} {vs : List V}, RpA K F vs (ns.map dV) → vs = ns.map vV
  | [], _, h => by cases h; rfl
  | n :: ns, _, h => by
    rw [List.map_cons] at h
    cases h with
    | cons q r =>
      rw [rpa_V r]
      cases n with
      | none => rw [rp_bool q]; rfl
      | some i => rw [rp_int q]; rfl
theorem preSum_map (f : Nat → Int) (ns : List (Option Int)) (hf : ∀ i (h : i < ns.length), f i = vI (ns[i])) : ∀ j, j ≤ ns.length → preSum f j = ((ns.take j).map vI).sum
  | 0, _ => rfl
  | j + 1, h => by
    rw [preSum, preSum_map f ns hf j (by omega), List.take_succ, List.getElem?_eq_getElem (by omega), hf j (by omega), List.map_append, List.sum_append]
    simp
theorem cr_sumV (hc : X.calm = true) : CallR X (.builtin "sum") (fun vs H Q => ∃ (a : Addr) (ns : List (Option Int)), vs = [V.ref a] ∧ SqL X.K H a (ns.map vV) ∧ Q (.int (ns.map vI).sum) H) := by
  intro pins s σ H vs us Q I r h
  obtain ⟨a, ns, rfl, hs, q⟩ := h
  obtain ⟨its, rv, hl, _⟩ := I.list hs
  rw [Vals.ref1 r]
  have hlL := hl.isList
  have hlen : its.length = ns.length := by have := rv.length; simpa using this.symm
  have hlt : a < s.heap.objs.size := by obtain ⟨_, e, _⟩ := hlL; exact Heap.lt_size e
  refine call_sum_walkAnyB (wpAny_pyIter_list hlL ⟨_, _, _, _, _, _, _, fun i => (ns[i]?.map vI).getD 0, rfl, (Walks.list (A := X.A.in1) (I.ok.hd hc) _ a (Nat.ne_of_lt hlt) its.toArray).toS, ⟨⟨_, Heap.get?_push_size _ rfl, rfl, rfl⟩, hlL.push _⟩, fun b hb => ?_, fun i v hv => ?_, fun s' t' mv => ?_⟩)
  · show b < (s.heap.push _).objs.size
    rw [Heap.size_push]
    rcases List.mem_cons.mp hb with rfl | hb
    · exact Nat.lt_succ_self _
    · rcases List.mem_cons.mp hb with rfl | hb
      · exact Nat.lt_succ_of_lt hlt
      · cases hb
  · have hv' : its[i]? = some v := by simpa using hv
    have hi : i < its.length := (List.getElem?_eq_some_iff.mp hv').1
    have hn : ns[i]? = some ns[i] := List.getElem?_eq_getElem (by omega)
    obtain ⟨u, hu, ru⟩ := rv.get (i := i) (x := vV ns[i]) (by rw [List.getElem?_map, hn]; rfl)
    rw [hv'] at hu
    cases hu
    show NumOf ((ns[i]?.map vI).getD 0) v
    rw [hn]
    show NumOf (vI ns[i]) v
    cases hq : ns[i] with
    | none =>
      rw [hq] at ru
      cases ru
      exact .inr ⟨true, rfl, rfl⟩
    | some k =>
      rw [hq] at ru
      obtain ⟨t, rfl⟩ := ru
      exact .inl ⟨t, rfl⟩
  · have e : s' = { s with heap := s'.heap, toks := s'.toks } := by
      have h1 := mv.gens
      have h2 := mv.drawn
      have h3 := mv.os
      cases s'
      simp_all
    have hsum : preSum (fun i => (ns[i]?.map vI).getD 0) its.toArray.size = (ns.map vI).sum := by
      rw [List.size_toArray, hlen, preSum_map _ ns (fun i h => by rw [List.getElem?_eq_getElem h]; rfl) _ (Nat.le_refl _), List.take_length]
    rw [hsum, e]
    refine ⟨.int _, H, I.kept (fun b o eb => ?_), ⟨_, rfl⟩, q⟩
    refine mv.heap b o (fun hm => ?_) (Heap.get?_push_of_some _ eb)
    rcases List.mem_cons.mp hm with e1 | hm
    · exact absurd (e1 ▸ Heap.lt_size eb) (Nat.lt_irrefl _)
    · cases hm
theorem pd_sumV {ns : List (Option Int)} (hc : X.calm = true) (hm : X.mg ("sum" : Str) = none) (h : PD X a ρ (.list (ns.map dV)) ρ1) (hg : Gl X "sum" := by rfl) (he : starEach [a] X.env = (false, eval a X.env) :: starEach [] X.env := by rfl) : PD X (.Call (.Name "sum" p) [a] [] pos) ρ (.int (ns.map vI).sum) ρ1 :=
  PE_imp (pe_callB (cr_sumV hc) hg hm rfl (pa_cons h pa_nil he) (by decide) (by decide) he) fun σ H Q ⟨C, F, se, q⟩ => ⟨C, F, se, fun v F1 H1 x1 e1 r1 => by
    cases r1 with
    | lst h1 h2 =>
      rw [rpa_V h2] at h1
      exact ⟨_, ns, rfl, e1.fr.ext.l h1, q _ F1 H1 x1 e1 (.int _)⟩⟩
/-! ### index, count -/
variable {α : Type} [DecidableEq α] {f : α → PyData} {ns : List α} {v : α} {n : Nat}
theorem pd_indexT {k : Nat} (hu : X.A.units + 65 < cLine) (q : EqD n f) (hm : n ≤ 60) (ho : PD X o ρ (.list (ns.map f)) ρ1) (ha : PD X a ρ1 (f v) ρ2) (hk : ns[k]? = some v) (hno : ∀ j : Nat, j < k → ∀ z, ns[j]? = some z → z ≠ v)
    (hbase : attributeBase o "index" X.env (eval o X.env) = eval o X.env := by rfl)
    (hfew : ((backTo p3 (starEach [a] X.env)).all (fun x => !x.1) && (backToKw p3 (keywordEach [] X.env)).all (fun x => x.1.isSome)
      && decide ([a].length + ([] : List Keyword).length + (if ([] : List Keyword).isEmpty then 0 else 1) < 30)) = true := by rfl)
    (hline : (p2.endLine == p3.line) = true := by rfl) (hs : starEach [a] X.env = (false, eval a X.env) :: starEach [] X.env := by rfl) :
    PD X (.Call (.Attribute o "index" p2) [a] [] p3) ρ (.int (k : Int)) ρ2 :=
  PE_imp (pe_bm PySem.F.plainAttrs_list PySem.F.slot_list_index PySem.F.type_list_index (mt_indexD hu) ho (pa_cons ha pa_nil hs) hbase hfew hline hs (by rfl)) fun σ H Q ⟨C, F, se, w⟩ => ⟨C, F, se, fun u F1 H1 x1 e1 r1 => by
    cases r1 with
    | @lst l vs _ h1 h2 =>
      refine ⟨.inl ⟨rfl, vs, e1.fr.ext.l h1⟩, C, F1, e1, fun t F2 H2 x2 e2 r2 => ?_⟩
      obtain ⟨d1, d2⟩ := dp_lst e2.fr.ext (e2.fr.ext.l (x2.l h1)) (h2.mono x2) q hm
      refine ⟨l, t, f v, ns.map f, k, f v, rfl, rfl, d1, dp_mono e2.fr.ext _ (Rp.dp _ r2 (q.lay v).1), d2, q.flat hm v, by rw [List.getElem?_map, hk]; rfl, by rw [q.eqv]; exact decide_eq_true rfl, fun j z hj hz => ?_, w _ F2 H2 (x1.trans x2) e2 (.int _)⟩
      rw [List.getElem?_map] at hz
      cases hz' : ns[j]? with
      | none => rw [hz'] at hz; cases hz
      | some z' =>
        rw [hz'] at hz
        cases hz
        rw [q.eqv]
        exact decide_eq_false (hno j hj z' hz')⟩
theorem mt_countD (hu : X.A.units + 65 < cLine) : MtR X "list.count" (fun x xs H Q => ∃ (a : Addr) (y : V) (d : PyData) (ds : List PyData), x = V.ref a ∧ xs = [y] ∧ Dp X.K H (V.ref a) (.list ds) ∧ Dp X.K H y d ∧ SeqAt.shaped (.list ds) = true ∧ SeqAt.shaped d = true ∧ Q (.int ((ds.countP fun z => PyData.eqv z d : Nat) : Int)) H) := by
  intro pins s σ H x xs v us Q I rx rxs h
  obtain ⟨a, y, d, ds, rfl, rfl, hl, hy, sl, sd, q⟩ := h
  cases rx
  cases rxs with
  | cons ry rt =>
    rename_i uy ut
    cases rt
    obtain ⟨bs, r1⟩ := Dp.reads I d y uy hy ry
    have hxs : PyData.canLayAll0 ds = true := SeqAt.canLay_of_shaped sl
    have hroom : X.A.units + 1 + min (PyData.depthAll ds) d.depth < cLine := room_in_shaped sd hu
    cases hl with
    | lst hs ha =>
      obtain ⟨its, rv, pl, hlen⟩ := I.list hs
      obtain ⟨as, h4⟩ := Dp.readsAll I ds _ its ha rv
      exact PySem.SeqAt.count_list_data pl.isList (show ReadsAll s.heap its.toArray.toList ds as from h4) r1 (PyData.plainAll_of_canLay0 _ hxs) (PyData.plain_of_canLay0 _ (SeqAt.canLay_of_shaped sd)) hroom ⟨.int _, H, I.tok _, ⟨_, rfl⟩, q⟩
theorem pd_countT (hu : X.A.units + 65 < cLine) (q : EqD n f) (hm : n ≤ 60) (ho : PD X o ρ (.list (ns.map f)) ρ1) (ha : PD X a ρ1 (f v) ρ2)
    (hbase : attributeBase o "count" X.env (eval o X.env) = eval o X.env := by rfl)
    (hfew : ((backTo p3 (starEach [a] X.env)).all (fun x => !x.1) && (backToKw p3 (keywordEach [] X.env)).all (fun x => x.1.isSome)
      && decide ([a].length + ([] : List Keyword).length + (if ([] : List Keyword).isEmpty then 0 else 1) < 30)) = true := by rfl)
    (hline : (p2.endLine == p3.line) = true := by rfl) (hs : starEach [a] X.env = (false, eval a X.env) :: starEach [] X.env := by rfl) :
    PD X (.Call (.Attribute o "count" p2) [a] [] p3) ρ (.int ((ns.countP fun z => decide (z = v) : Nat) : Int)) ρ2 :=
  PE_imp (pe_bm PySem.F.plainAttrs_list PySem.F.slot_list_count PySem.F.type_list_count (mt_countD hu) ho (pa_cons ha pa_nil hs) hbase hfew hline hs (by rfl)) fun σ H Q ⟨C, F, se, w⟩ => ⟨C, F, se, fun u F1 H1 x1 e1 r1 => by
    cases r1 with
    | @lst l vs _ h1 h2 =>
      refine ⟨.inl ⟨rfl, vs, e1.fr.ext.l h1⟩, C, F1, e1, fun t F2 H2 x2 e2 r2 => ?_⟩
      obtain ⟨d1, d2⟩ := dp_lst e2.fr.ext (e2.fr.ext.l (x2.l h1)) (h2.mono x2) q hm
      refine ⟨l, t, f v, ns.map f, rfl, rfl, d1, dp_mono e2.fr.ext _ (Rp.dp _ r2 (q.lay v).1), d2, q.flat hm v, ?_⟩
      have e : ((ns.map f).countP fun z => PyData.eqv z (f v)) = ns.countP fun z => decide (z = v) := by
        rw [List.countP_map]
        refine List.countP_congr fun z _ => ?_
        show PyData.eqv (f z) (f v) = true ↔ _
        rw [q.eqv]
      rw [e]
      exact w _ F2 H2 (x1.trans x2) e2 (.int _)⟩
end
end G

/-! GDict3: dicts of one kind. -/
namespace G
open PySem PySem.Spec PyProof.Rows L2
abbrev kN (n : Nm) : Key := .inr n.1
theorem kN_inj (a b : Nm) (h : kN a = kN b) : a = b := Subtype.ext (Sum.inr.inj h)
theorem kT3_inj {α β γ : Type} {f : α → Key} {g : β → Key} {h : γ → Key} (hf : ∀ a b, f a = f b → a = b) (hg : ∀ a b, g a = g b → a = b) (hh : ∀ a b, h a = h b → a = b) (p q : α × β × γ) (e : kT3 f g h p = kT3 f g h q) : p = q := by
  obtain ⟨a, b, c⟩ := p
  obtain ⟨a', b', c'⟩ := q
  have h1 : f a = f a' ∧ g b = g b' ∧ h c = h c' := by simpa [kT3] using e
  rw [hf _ _ h1.1, hg _ _ h1.2.1, hh _ _ h1.2.2]
section
variable {κ α : Type} [DecidableEq κ] {ky : κ → Key} {kt : κ → List Key} {f : α → PyData} {y : PyData}
def gD [Inhabited α] (m : List (κ × α)) (k : κ) : α := (gv m k).getD default
theorem gD_some [Inhabited α] {m : List (κ × α)} {k : κ} {v : α} (h : gv m k = some v) : gD m k = v := by unfold gD; rw [h]; rfl
theorem gv_gD [Inhabited α] {m : List (κ × α)} {k : κ} (h : (gv m k).isSome = true) : gv m k = some (gD m k) := by
  unfold gD
  cases q : gv m k with
  | none => rw [q] at h; cases h
  | some v => rfl
theorem dk_d (hk : ∀ a b, ky a = ky b → a = b) (m : List (κ × α)) (k : κ) (hy : kD (ky k) = y := by rfl) : DK (oD ky f m) y ((gv m k).map f) := by
  have h : DK (.d (m.map fun p => (ky p.1, f p.2))) (kD (ky k)) (gv (m.map fun p => (ky p.1, f p.2)) (ky k)) := .d
  rw [gv_map hk, hy] at h
  exact h
theorem dk_t (hk : ∀ a b, kt a = kt b → a = b) (m : List (κ × α)) (k : κ) (hy : kDs (kt k) = y := by rfl) : DK (oT kt f m) y ((gv m k).map f) := by
  have h : DK (.t (m.map fun p => (kt p.1, f p.2))) (kDs (kt k)) (gv (m.map fun p => (kt p.1, f p.2)) (kt k)) := .t
  rw [gv_map hk, hy] at h
  exact h
theorem dk_dget [Inhabited α] (hk : ∀ a b, ky a = ky b → a = b) (m : List (κ × α)) (k : κ) (h : (gv m k).isSome = true) (hy : kD (ky k) = y := by rfl) : DK (oD ky f m) y (some (f (gD m k))) := by
  have := dk_d (f := f) hk m k hy
  rw [gv_gD h] at this
  exact this
theorem dk_tget [Inhabited α] (hk : ∀ a b, kt a = kt b → a = b) (m : List (κ × α)) (k : κ) (h : (gv m k).isSome = true) (hy : kDs (kt k) = y := by rfl) : DK (oT kt f m) y (some (f (gD m k))) := by
  have := dk_t (f := f) hk m k hy
  rw [gv_gD h] at this
  exact this
theorem df_d (hk : ∀ a b, ky a = ky b → a = b) (m : List (κ × α)) (k : κ) (hy : kD (ky k) = y := by rfl) : DF (dD ky f m) y ((gv m k).map f) := by
  have h : DF (.dict ((m.map fun p => (ky p.1, f p.2)).map fun p => (kD p.1, p.2))) (kD (ky k)) (gv (m.map fun p => (ky p.1, f p.2)) (ky k)) := .d
  rw [gv_map hk, hy] at h
  exact h
theorem df_t (hk : ∀ a b, kt a = kt b → a = b) (m : List (κ × α)) (k : κ) (hn : m ≠ []) (hy : kDs (kt k) = y := by rfl) : DF (dDT kt f m) y ((gv m k).map f) := by
  have h : DF (.dict ((m.map fun p => (kt p.1, f p.2)).map fun p => (kDs p.1, p.2))) (kDs (kt k)) (gv (m.map fun p => (kt p.1, f p.2)) (kt k)) := .t (fun z => hn (List.map_eq_nil_iff.mp z))
  rw [gv_map hk, hy] at h
  exact h
theorem df_dget [Inhabited α] (hk : ∀ a b, ky a = ky b → a = b) (m : List (κ × α)) (k : κ) (h : (gv m k).isSome = true) (hy : kD (ky k) = y := by rfl) : DF (dD ky f m) y (some (f (gD m k))) := by
  have := df_d (f := f) hk m k hy
  rw [gv_gD h] at this
  exact this
theorem df_tget [Inhabited α] (hk : ∀ a b, kt a = kt b → a = b) (m : List (κ × α)) (k : κ) (h : (gv m k).isSome = true) (hy : kDs (kt k) = y := by rfl) : DF (dDT kt f m) y (some (f (gD m k))) := by
  have := df_t (f := f) hk m k (fun z => by rw [z] at h; cases h) hy
  rw [gv_gD h] at this
  exact this
theorem dp_d (hk : ∀ a b, ky a = ky b → a = b) (m : List (κ × α)) (k : κ) (v : α) (hl : m.length < 100000) {x : PyData} (hx : f v = x := by rfl) (hy : kD (ky k) = y := by rfl) : DP (oD ky f m) y x (oD ky f (pv m k v)) := by
  have h : DP (.d (m.map fun p => (ky p.1, f p.2))) (kD (ky k)) (f v) (.d (pv (m.map fun p => (ky p.1, f p.2)) (ky k) (f v))) := .d (by rw [List.length_map]; exact hl)
  rw [pv_map hk, hy, hx] at h
  exact h
theorem dp_t (hk : ∀ a b, kt a = kt b → a = b) (m : List (κ × α)) (k : κ) (v : α) (hl : m.length < 100000) {x : PyData} (hx : f v = x := by rfl) (hy : kDs (kt k) = y := by rfl) : DP (oT kt f m) y x (oT kt f (pv m k v)) := by
  have h : DP (.t (m.map fun p => (kt p.1, f p.2))) (kDs (kt k)) (f v) (.t (pv (m.map fun p => (kt p.1, f p.2)) (kt k) (f v))) := .t (by rw [List.length_map]; exact hl)
  rw [pv_map hk, hy, hx] at h
  exact h
theorem getD_map (f : α → PyData) (o : Option α) (z : α) : (o.map f).getD (f z) = f (o.getD z) := by cases o <;> rfl
end
section
variable {X : Cx} {tg e : Expr} {ρ ρ' ρ1 : En} {κ α : Type} {ky : κ → Key} {kt : κ → List Key} {f : α → PyData} {td : κ → PyData} {m : List (κ × α)}
theorem id_dk (ht : ∀ k, td k = kD (ky k)) (h : PD X e ρ (dD ky f m) ρ') : ID X tg e ρ ((m.map (·.1)).map td) (fun _ => True) none ρ' := by
  have q := id_dkeys (tg := tg) h
  rw [List.map_map] at q ⊢
  have e1 : (m.map ((fun p : Key × PyData => kD p.1) ∘ fun p => (ky p.1, f p.2))) = m.map (td ∘ fun p => p.1) := List.map_congr_left fun p _ => (ht p.1).symm
  rw [e1] at q
  exact q
theorem id_dkT (ht : ∀ k, td k = kDs (kt k)) (h : PD X e ρ (dDT kt f m) ρ') : ID X tg e ρ ((m.map (·.1)).map td) (fun _ => True) none ρ' := by
  have q := id_dkeysT (tg := tg) h
  rw [List.map_map] at q ⊢
  have e1 : (m.map ((fun p : List Key × PyData => kDs p.1) ∘ fun p => (kt p.1, f p.2))) = m.map (td ∘ fun p => p.1) := List.map_congr_left fun p _ => (ht p.1).symm
  rw [e1] at q
  exact q
theorem pn_listRg {a : Expr} {p p2 pos : Pos} {n : Int} (hc : X.calm = true) (hm : X.mg ("list" : Str) = none) (hm2 : X.mg ("range" : Str) = none) (ha : PD X a ρ (.int n) ρ1) (hn : 0 ≤ n ∧ n ≤ 100000) (hg : Gl X "list" := by rfl) (hg2 : Gl X "range" := by rfl)
    (na : starEach [a] X.env = (false, eval a X.env) :: starEach [] X.env := by rfl) (na2 : starEach [.Call (.Name "range" p2) [a] [] pos'] X.env = (false, eval (.Call (.Name "range" p2) [a] [] pos') X.env) :: starEach [] X.env := by rfl) :
    PN X (.Call (.Name "list" p) [.Call (.Name "range" p2) [a] [] pos'] [] pos) ρ (.l (((List.range n.toNat).map fun i : Nat => (i : Int)).map .int)) ρ1 :=
  PE_imp (pe_listRg hc hg hm (prg_1 hg2 hm2 ha na) na2) fun σ H Q ⟨C, F, se, q⟩ => ⟨C, F, se, fun v F1 H1 x1 e1 r1 => by
    refine ⟨n, rp_int r1, RgOk.of_le (by omega) (by omega) (by omega) (by omega), fun p hp => ?_⟩
    obtain ⟨h1, h2, h3, h4⟩ := e1.lay (o := .lst (rgV 0 n)) hp
    have e : rgV 0 n = (((List.range n.toNat).map fun i : Nat => (i : Int)).map V.int) := by
      unfold rgV
      rw [List.map_map, Int.sub_zero]
      refine List.map_congr_left fun i _ => ?_
      show V.int (0 + (i : Int)) = V.int (i : Int)
      rw [Int.zero_add]
    rw [e] at h1 ⊢
    exact q p F1 _ x1 h1 h2 h3 h4 ⟨_, upd_same, .ints _⟩⟩
end
/-! the first place of an item -/
section
variable {α : Type} [DecidableEq α]
theorem idx_at {v : α} {ns : List α} (h : v ∈ ns) : ns[ns.idxOf v]? = some v := by
  have h1 : ns.idxOf v < ns.length := List.idxOf_lt_length_of_mem h
  rw [List.getElem?_eq_getElem h1, List.getElem_idxOf h1]
theorem idx_no (ns : List α) (v : α) (j : Nat) (h : j < ns.idxOf v) (z : α) (hz : ns[j]? = some z) : z ≠ v := fun e => by
  subst e
  have hj := (List.getElem?_eq_some_iff.mp hz)
  obtain ⟨h1, h2⟩ := hj
  have h3 := List.not_of_lt_findIdx (p := (· == z)) (show j < ns.findIdx (· == z) from h)
  rw [h2] at h3
  simp at h3
end
theorem cutG_le {α : Type} (xs : List α) (lo hi : Option Int) : (cutG xs lo hi).length ≤ xs.length := by
  unfold cutG
  rw [List.length_take, List.length_drop]
  omega
end G

/-! GPair: two new objects given back as a tuple, unpacked into names that own them. -/
namespace G
open PySem PySem.Spec PyProof.Rows L2
section
variable {X : Cx} {W : WX} {e a b c : Expr} {es : List Expr} {p p1 p2 pos pos' : Pos} {ρ ρ' ρ1 ρ2 : En} {x u w : Str} {D : DE} {ds dds : List PyData} {dvs : List V} {j k : Nat}
theorem sd_retQ {kk : Nat} (i n : Nat) {c c2 : Ct} (hi : ρ[i]? = some (.o none c)) (hj : ρ[n]? = some (.o none c2)) (hij : i ≠ n) (h : D.rq c c2 ρ) (hN : X.N[i]? = some u := by rfl) (hv : Vis X.env.scope u := by first | exact Or.inl rfl | exact Or.inr (Or.inl rfl) | exact Or.inr (Or.inr rfl)) (hd : (u == ("__debug__" : Str)) = false := by decide) (hcd : (u == ("__classdict__" : Str)) = false := by decide)
    (hN2 : X.N[n]? = some w := by rfl) (hv2 : Vis X.env.scope w := by first | exact Or.inl rfl | exact Or.inr (Or.inl rfl) | exact Or.inr (Or.inr rfl)) (hd2 : (w == ("__debug__" : Str)) = false := by decide) (hcd2 : (w == ("__classdict__" : Str)) = false := by decide)
    (hs : starEach [.Name u p1, .Name w p2] X.env = (false, eval (.Name u p1) X.env) :: starEach [.Name w p2] X.env := by rfl) (hs2 : starEach [.Name w p2] X.env = (false, eval (.Name w p2) X.env) :: starEach [] X.env := by rfl) : SD X W (.Return (some (.Tuple [.Name u p1, .Name w p2] kk pos')) pos) ρ D :=
  PS_imp (ps_ret (pe_tup (pa_cons (pe_var hN hv hd hcd) (pa_cons (pe_var hN2 hv2 hd2 hcd2) pa_nil hs2) hs))) fun E σ H ⟨C, F, se, cv⟩ => by
    obtain ⟨l, a1, _, a3, a4⟩ := se.getO hi
    obtain ⟨l', b1, _, b3, b4⟩ := se.getO hj
    refine ⟨.ref l, a1, .ref l', b1, ?_⟩
    refine ⟨(show 2 ≤ sizeLine by decide), fun t ht => ?_⟩
    have g : Gr F H F (upd H t (.tup [.ref l, .ref l'])) := .side se.fr.ext ht
    exact cv.rq c c2 ρ t l l' F _ σ h (se.grow g) upd_same (se.own i l a4).1 (se.own n l' b4).1 (se.fresh i l c hi a1) (se.fresh n l' c2 hj b1) (fun z => hij (se.sep i n l a4 (by rw [z]; exact b4))) (a3.grow (.refl _) (g.h l)) (b3.grow (.refl _) (g.h l'))
theorem sd_unpackQ {kk : Nat} {p0 p3 p4 : Pos} {S : List PyData → Res → Prop} {c1 c2 : Ct} {f0 : Str} (i n : Nat) (cl : Cal X.prog X.w X.K X.mg X.base j f0 (spD X.K S) dvs) (hr : Room k X.A) (hdf : Dfs dvs dds) (ha : AD X (e :: es) ρ ds ρ1) (hS : S (ds ++ dds) (.own2 c1 c2)) (hij : i ≠ n) (h : D.nx ((ρ1.set i (.o none c1)).set n (.o none c2))) (hc : X.calm = true) (hNd : X.N.Nodup)
    (hk : j ≤ k := by decide) (hg : Gl X f0 := by rfl)
    (hdb : (f0 == ("__debug__" : Str)) = false := by decide) (he : starEach (e :: es) X.env = (false, eval e X.env) :: starEach es X.env := by rfl) (hpl : (backTo p3 (starEach es X.env)).any (·.1) = false := by rfl)
    (hi : X.N[i]? = some u := by rfl) (hx : Loc X.env.scope u := by first | exact Or.inl rfl | exact Or.inr rfl)
    (hf : X.fn u = true ∨ X.env.scope.names.lookup u = some .local := by first | exact .inl rfl | exact .inr rfl)
    (hi2 : X.N[n]? = some w := by rfl) (hx2 : Loc X.env.scope w := by first | exact Or.inl rfl | exact Or.inr rfl)
    (hf2 : X.fn w = true ∨ X.env.scope.names.lookup w = some .local := by first | exact .inl rfl | exact .inr rfl)
    (hs : swapsWithSole [.Tuple [.Name u p1, .Name w p2] kk p4] (.Call (.Name f0 p0) (e :: es) [] p3) pos.line X.env = pure false := by rfl) (hw : swappedStores [.Tuple [.Name u p1, .Name w p2] kk p4] (.Call (.Name f0 p0) (e :: es) [] p3) X.env = pure none := by rfl)
    (h1 : (assignEach [.Tuple [.Name u p1, .Name w p2] kk p4] X.env).map (·.2) = [assign (.Tuple [.Name u p1, .Name w p2] kk p4) X.env] := by rfl)
    (hn : (assignEach [.Name u p1, .Name w p2] X.env).length = 2 := by rfl) (hst : (assignEach [.Name u p1, .Name w p2] X.env).findIdx? (·.1) = none := by rfl)
    (hs3 : (assignEach [.Name u p1, .Name w p2] X.env).map (·.2) = assign (.Name u p1) X.env :: (assignEach [.Name w p2] X.env).map (·.2) := by rfl) (hs4 : (assignEach [.Name w p2] X.env).map (·.2) = assign (.Name w p2) X.env :: (assignEach [] X.env).map (·.2) := by rfl) :
    SD X W (.Assign [.Tuple [.Name u p1, .Name w p2] kk p4] (.Call (.Name f0 p0) (e :: es) [] p3) pos) ρ D := by
  obtain ⟨f, fd, ps, dd, fn, hm, kp, bi, vv⟩ := cl.ex
  refine PS_imp (ps_asg (pe_callSD fn (hr.mono hk) hg hm kp bi vv (fun σ => passE0 σ) ha hdb he hpl) (pg_tup hc (pgs_cons (pg_name hNd hi hx hf) (pgs_cons (pg_name hNd hi2 hx2 hf2) pgs_nil hs4) hs3) hn hst) hs hw h1) fun E σ H ⟨C, F, se, cv⟩ => ⟨C, F, se, fun vs F1 H1 x1 e1 r1 => ?_⟩
  refine ⟨F1, _, _, e1.fr.ext, r1.append hdf.rp, hS, fun t p q F2 H2 g ht fp fq hp hq np o1 o2 => ?_⟩
  refine ⟨t, _, rfl, SqT.of ht, rfl, .ref p, _, rfl, .ref q, _, rfl, rfl, ?_⟩
  have e2 := e1.grow g
  have e3 := e2.setOwn (i := i) fp (e1.fr.there p hp) (not_owns_new e1 hp) o1
  have e4 := e3.setOwn (i := n) fq (e1.fr.there q hq) (fun m om => by
    rcases own_set om with ⟨rfl, z, _⟩ | ⟨_, z⟩
    · cases z; exact np rfl
    · exact not_owns_new e1 hq m z) o2
  exact cv.nx _ F2 H2 _ h e4
end
theorem pickT {α : Type} [Inhabited α] (q : Pool) (ns : List α) (f : α → PyData) (h : 0 < ns.length) (h2 : ns.length < 100000) : SPick (pl q) [.list (ns.map f)] (f (gI ns (drawP q (ns.length : Int)).1)) (pl (drawP q (ns.length : Int)).2) := by
  have b := draw_bd q (n := (ns.length : Int)) (by omega)
  refine ⟨q, ns.map f, drawP q (ns.length : Int), rfl, rfl, ⟨by rw [List.length_map]; exact h, by rw [List.length_map]; exact h2⟩, by rw [List.length_map], ?_, rfl⟩
  have hk : (drawP q (ns.length : Int)).1.toNat < ns.length := by omega
  rw [List.getElem?_map, List.getElem?_eq_getElem hk]
  unfold gI
  rw [if_neg (by omega), getElem!_pos ns _ hk]; rfl
section
variable {X : Cx} {W : WX} {e a : Expr} {es : List Expr} {p pos pos' : Pos} {ρ ρ1 : En} {D : DE} {cls : Value} {fs : List (Str × PyData)} {dds : List PyData} {dvs : List V} {j k : Nat} {x : Str} {ds : List PyData}
/-- a, b = e, e raises -/
theorem sd_unpackX (he : PX X W e ρ cls fs ρ1) (h : D.ex cls fs ρ1) (hs : swapsWithSole [a] e pos.line X.env = pure false := by rfl) (hw : swappedStores [a] e X.env = pure none := by rfl)
    (h1 : (assignEach [a] X.env).map (·.2) = [assign a X.env] := by rfl) : SD X W (.Assign [a] e pos) ρ D := PS_imp (ps_asg he (⟨fun _ _ _ _ _ _ _ _ _ h => h.elim⟩ : PG X a (fun _ _ _ _ => False)) hs hw h1) fun E σ H ⟨C, F, se, cv⟩ => ⟨C, F, se, fun d F' H' _ e' r => cv.ex cls fs ρ1 d F' H' σ h e' r⟩
/-- a def that draws and always says True; what is left to draw from is forgotten -/
theorem pd_relT {S : List PyData → Prop} {R : List PyData → PyData → Prop} {o : Str} {p0 : Pos} {pa pb : Option Addr} {q : Pool} (i : Nat) (cl : Cal X.prog X.w X.K X.mg X.base j x (spP X.K S R) dvs) (hr : Room k X.A) (hd : Dfs dvs dds) (h0 : ρ[i]? = some (.o pa (.l ys))) (ha : AD X es ρ ds ρ1) (h1 : ρ1[i]? = some (.o pb (.l (pl q)))) (hS : S (ds ++ dds)) (hR : ∀ y, R (ds ++ dds) y → y = .bool true) (hk : j ≤ k := by decide) (hg : Gl X x := by rfl)
    (hN : X.N[i]? = some o := by rfl) (hv : Vis X.env.scope o := by first | exact Or.inl rfl | exact Or.inr (Or.inl rfl) | exact Or.inr (Or.inr rfl)) (hdo : (o == ("__debug__" : Str)) = false := by decide) (hcd : (o == ("__classdict__" : Str)) = false := by decide)
    (hdb : (x == ("__debug__" : Str)) = false := by decide) (he : starEach (.Name o p0 :: es) X.env = (false, eval (.Name o p0) X.env) :: starEach es X.env := by rfl) (hpl : (backTo pos (starEach es X.env)).any (·.1) = false := by rfl) :
    PD X (.Call (.Name x p) (.Name o p0 :: es) [] pos) ρ (.bool true) (ρ1.set i .un) :=
  PE_imp (pp_call (q := q) i cl hr hd h0 ha h1 hS hk hg hN hv hdo hcd hdb he hpl) fun σ H Q ⟨C, F, se, w⟩ => ⟨C, F, se, fun v F1 H1 y ρ' hr1 x1 e1 r1 => by
    obtain ⟨hy, q', rfl⟩ := hr1
    have ey := hR y hy
    subst ey
    refine w v F1 H1 x1 (e1.le ?_) r1
    have : ∀ (n : Nat) (r : En) (s : Sl), Le (r.set n .un) (r.set n s) := fun n r s => by
      induction r generalizing n with
      | nil => exact .nil
      | cons a r ih =>
        cases n with
        | zero => exact .un (.refl _)
        | succ n => exact .eq (ih n)
    exact this i ρ1 _⟩
end
theorem lo_up (ns : List Int) : dL PyData.int ns = dL (dO PyData.int) (ns.map some) := by
  show PyData.list _ = PyData.list _
  rw [List.map_map]; rfl
/-! ### relations, further -/
section
variable {X : Cx} {W : WX} {e a b c : Expr} {es : List Expr} {p p1 pos pos' : Pos} {ρ ρ1 ρ2 : En} {D : DE} {dds : List PyData} {dvs : List V} {j k : Nat} {x : Str} {ds ys : List PyData} {y : PyData}
def tAR (K : PySem.W.Frag) (ρ : En) (R : List PyData → En → Prop) : TA := fun σ H Q => ∃ C F, SE K C F H σ ρ ∧ ∀ vs F' H' xs ρ', R xs ρ' → Ex F F' → SE K C F' H' σ ρ' → RpA K F' vs xs → Q vs H'
abbrev AR (X : Cx) (es : List Expr) (ρ : En) (R : List PyData → En → Prop) : Prop := PA X es (tAR X.K ρ R)
theorem PA_ex {ι : Type} {es : List Expr} {t : ι → TA} (h : ∀ i, PA X es (t i)) : PA X es (fun σ H Q => ∃ i, t i σ H Q) := ⟨fun pos pins s σ H Q I ⟨i, q⟩ => (h i).run pos pins s σ H Q I q⟩
theorem pp_of (h : PD X e ρ y ρ1) : PP X e ρ (fun z r => z = y ∧ r = ρ1) := PE_imp h fun σ H Q ⟨C, F, se, q⟩ => ⟨C, F, se, fun v F1 H1 x1 e1 r1 => q v F1 H1 y ρ1 ⟨rfl, rfl⟩ x1 e1 r1⟩
theorem ar_nil : AR X [] ρ (fun xs r => xs = [] ∧ r = ρ) := PA_imp pa_nil fun σ H Q ⟨C, F, se, q⟩ => q [] F H [] ρ ⟨rfl, rfl⟩ (.refl _) se .nil
theorem ar_cons {R1 : PyData → En → Prop} {R2 : PyData → En → List PyData → En → Prop} (h : PP X e ρ R1) (hr : ∀ y r, R1 y r → AR X es r (R2 y r)) (hs : starEach (e :: es) X.env = (false, eval e X.env) :: starEach es X.env := by rfl) : AR X (e :: es) ρ (fun xs r => ∃ y t r1, xs = y :: t ∧ R1 y r1 ∧ R2 y r1 t r) := by
  have hp : PA X es (fun σ H Q => ∃ q : { q : PyData × En // R1 q.1 q.2 }, tAR X.K q.1.2 (R2 q.1.1 q.1.2) σ H Q) := PA_ex fun q => hr q.1.1 q.1.2 q.2
  exact PA_imp (pa_cons h hp hs) fun σ H Q ⟨C, F, se, q⟩ => ⟨C, F, se, fun v F1 H1 y r1 h1 x1 e1 rp1 => ⟨⟨(y, r1), h1⟩, C, F1, e1, fun vs F2 H2 t r2 h2 x2 e2 rp2 => q (v :: vs) F2 H2 (y :: t) r2 ⟨y, t, r1, rfl, h1, h2⟩ (x1.trans x2) e2 (.cons (rp1.mono x2) rp2)⟩⟩
theorem pp_lst {R : List PyData → En → Prop} (h : AR X es ρ R) (hl : es.length ≤ 100000 := by exact Nat.le_of_ble_eq_true rfl) (hlen : ∀ xs r, R xs r → xs.length ≤ 100000) : PP X (.List es pos) ρ (fun y r => ∃ xs, y = .list xs ∧ R xs r) := PE_imp (pe_lst h) fun σ H Q ⟨C, F, se, q⟩ =>
  ⟨C, F, se, fun vs F1 H1 xs r hR x1 e1 rp => ⟨by rw [rp.length]; exact line_of (hlen xs r hR), fun p hp => by
    obtain ⟨a, b, c, d⟩ := e1.lay (o := .lst vs) hp
    exact q (.ref p) (upd F1 p (.lst vs)) _ (.list xs) r ⟨xs, rfl, hR⟩ (x1.trans (.new b)) (a.frz b upd_same c d) (.lst (SqL.of upd_same) (rp.mono (.new b)))⟩⟩
theorem pp_callO {S : List PyData → List PyData → PyData → List PyData → Prop} {R : List PyData → En → Prop} {o : Str} {p0 : Pos} {pa : Option Addr} (i : Nat) (cl : Cal X.prog X.w X.K X.mg X.base j x (spO X.K S) dvs) (hr : Room k X.A) (hd : Dfs dvs dds) (h0 : ρ[i]? = some (.o pa (.l ys))) (ha : AR X es ρ R) (hS : ∀ ds r1, R ds r1 → ∃ pb xs y xs', r1[i]? = some (.o pb (.l xs)) ∧ S xs (ds ++ dds) y xs') (hk : j ≤ k := by decide) (hg : Gl X x := by rfl)
    (hN : X.N[i]? = some o := by rfl) (hv : Vis X.env.scope o := by first | exact Or.inl rfl | exact Or.inr (Or.inl rfl) | exact Or.inr (Or.inr rfl)) (hdo : (o == ("__debug__" : Str)) = false := by decide) (hcd : (o == ("__classdict__" : Str)) = false := by decide)
    (hdb : (x == ("__debug__" : Str)) = false := by decide) (he : starEach (.Name o p0 :: es) X.env = (false, eval (.Name o p0) X.env) :: starEach es X.env := by rfl) (hpl : (backTo pos (starEach es X.env)).any (·.1) = false := by rfl) :
    PP X (.Call (.Name x p) (.Name o p0 :: es) [] pos) ρ (fun y r => ∃ ds r1 pb xs xs', R ds r1 ∧ r1[i]? = some (.o pb (.l xs)) ∧ S xs (ds ++ dds) y xs' ∧ r = r1.set i (.o pb (.l xs'))) := by
  obtain ⟨f, fd, ps, dd, fn, hm, kp, bi, vv⟩ := cl.ex
  refine PE_imp (pe_callSD fn (hr.mono hk) hg hm kp bi vv (fun σ => passE0 σ) (pa_cons (pe_var hN hv hdo hcd) ha he) hdb he hpl) fun σ H Q ⟨C, F, se, q⟩ => ?_
  obtain ⟨l, a1, _, _, a4⟩ := se.getO h0
  refine ⟨.ref l, a1, C, F, se, fun vs F1 H1 ds r1 hR x1 e1 rp => ?_⟩
  obtain ⟨pb, xs, y, xs', h1, h2⟩ := hS ds r1 hR
  obtain ⟨l', b1, b2, ⟨us, b3, b5⟩, b4⟩ := e1.getO h1
  rw [a1] at b1
  cases b1
  refine ⟨F1, l, vs ++ dvs, us, xs, ds ++ dds, y, xs', rfl, e1.fr.ext, (e1.own i l b4).1, b3, b5, rp.append hd.rp, h2, fun v F2 H2 us' g h3 ru rv => ?_⟩
  exact q v F2 H2 y _ ⟨ds, r1, pb, xs, xs', hR, h1, h2, rfl⟩ (x1.trans g.f) (e1.wrg g h1 a1 ⟨us', h3, ru⟩) rv
/-- an `and` whose right side uses the pool up -/
theorem pd_andU {a b : Expr} {rest : List Expr} {k1 k2 : Bool} (ha : PD X a ρ (.bool k1) ρ1) (hb : k1 = true → PD X (.BoolOp .And (b :: rest) pos) ρ1 (.bool k2) ρ2) (hl : Le ρ2 ρ1 := by repeat (first | exact Le.nil | apply Le.eq | apply Le.un)) : PD X (.BoolOp .And (a :: b :: rest) pos) ρ (.bool (k1 && k2)) ρ2 := by
  cases k1 with
  | true => exact pd_and_t ha (hb rfl)
  | false => exact PE_imp (pd_and_f ha) fun σ H Q ⟨C, F, se, w⟩ => ⟨C, F, se, fun v F1 H1 x1 e1 r1 => w v F1 H1 x1 (e1.le hl) r1⟩
/-- a pick of two that are told and one that is drawn -/
theorem pp_pick3 {R : PyData → En → Prop} {o : Str} {p0 : Pos} {pa : Option Addr} {x1 x2 : PyData} (i : Nat) (cl : Cal X.prog X.w X.K X.mg X.base j "_law_pick" (spO X.K SPick) []) (hr : Room k X.A) (h0 : ρ[i]? = some (.o pa (.l ys))) (h1 : PD X a ρ x1 ρ1) (h2 : PD X b ρ1 x2 ρ2) (h3 : PP X c ρ2 R) (hq : ∀ y r, R y r → ∃ pb q, r[i]? = some (.o pb (.l (pl q)))) (hk : j ≤ k := by decide) (hg : Gl X "_law_pick" := by rfl)
    (hN : X.N[i]? = some o := by rfl) (hv : Vis X.env.scope o := by first | exact Or.inl rfl | exact Or.inr (Or.inl rfl) | exact Or.inr (Or.inr rfl)) (hdo : (o == ("__debug__" : Str)) = false := by decide) (hcd : (o == ("__classdict__" : Str)) = false := by decide)
    (he : starEach (.Name o p0 :: [.List [a, b, c] p1]) X.env = (false, eval (.Name o p0) X.env) :: starEach [.List [a, b, c] p1] X.env := by rfl) (hpl : (backTo pos (starEach [.List [a, b, c] p1] X.env)).any (·.1) = false := by rfl)
    (hs1 : starEach [a, b, c] X.env = (false, eval a X.env) :: starEach [b, c] X.env := by rfl) (hs2 : starEach [b, c] X.env = (false, eval b X.env) :: starEach [c] X.env := by rfl) (hs3 : starEach [c] X.env = (false, eval c X.env) :: starEach [] X.env := by rfl) (hs4 : starEach [.List [a, b, c] p1] X.env = (false, eval (.List [a, b, c] p1) X.env) :: starEach [] X.env := by rfl) :
    PP X (.Call (.Name "_law_pick" p) (.Name o p0 :: [.List [a, b, c] p1]) [] pos) ρ (fun y r => ∃ z r1 pb xs q', R z r1 ∧ r1[i]? = some (.o pb (.l xs)) ∧ (y = x1 ∨ y = x2 ∨ y = z) ∧ r = r1.set i (.o pb (.l (pl q')))) := by
  have hl := pp_lst (pos := p1) (ar_cons (pp_of h1) (R2 := fun _ _ xs r => ∃ y t r1, xs = y :: t ∧ (y = x2 ∧ r1 = ρ2) ∧ ∃ y' t' r2, t = y' :: t' ∧ R y' r2 ∧ (t' = [] ∧ r = r2)) (fun y r hy => by
    obtain ⟨_, rfl⟩ := hy
    exact ar_cons (pp_of h2) (R2 := fun _ _ t r => ∃ y' t' r2, t = y' :: t' ∧ R y' r2 ∧ (t' = [] ∧ r = r2)) (fun y r hy => by
      obtain ⟨_, rfl⟩ := hy
      exact ar_cons h3 (R2 := fun _ r2 t' r => t' = [] ∧ r = r2) (fun y r hy => ar_nil) hs3) hs2) hs1) (hlen := fun xs r h => by
      obtain ⟨y, t, r1, rfl, _, y2, t2, r2, rfl, _, y3, t3, r3, rfl, _, rfl, _⟩ := h
      simp)
  have ha := ar_cons hl (R2 := fun _ r1 t r => t = [] ∧ r = r1) (fun y r hy => ar_nil) hs4
  refine PE_imp (pp_callO i cl hr .nil h0 ha (fun ds r1 hR => ?_) hk hg hN hv hdo hcd (by decide) he hpl) fun σ H Q ⟨C, F, se, w⟩ => ⟨C, F, se, fun v F1 H1 y r hR x1' e1 rp => w v F1 H1 y r ?_ x1' e1 rp⟩
  · obtain ⟨y, t, r2, rfl, ⟨xs, rfl, y1, t1, r3, rfl, ⟨rfl, rfl⟩, y2, t2, r4, rfl, ⟨rfl, rfl⟩, y3, t3, r5, rfl, h5, rfl, rfl⟩, rfl, rfl⟩ := hR
    obtain ⟨pb, q, h6⟩ := hq _ _ h5
    have b := draw_bd q (n := 3) (by decide)
    have : ∃ z, ([y1, y2, y3] : List PyData)[(drawP q 3).1.toNat]? = some z := ⟨_, List.getElem?_eq_getElem (by simp; omega)⟩
    obtain ⟨z, hz⟩ := this
    exact ⟨pb, pl q, z, _, h6, q, [y1, y2, y3], drawP q 3, rfl, rfl, ⟨by simp, by simp⟩, rfl, hz, rfl⟩
  · obtain ⟨ds, r1, pb, xs, xs', hds, h1, hS, rfl⟩ := hR
    obtain ⟨y', t, r2, rfl, ⟨xs2, rfl, y1, t1, r3, rfl, ⟨rfl, rfl⟩, y2, t2, r4, rfl, ⟨rfl, rfl⟩, y3, t3, r5, rfl, h5, rfl, rfl⟩, rfl, rfl⟩ := hds
    obtain ⟨p', rows, rr, rfl, hrows, _, _, hy, rfl⟩ := hS
    have e : rows = [y1, y2, y3] := by
      have : ([PyData.list [y1, y2, y3]] ++ [] : List PyData) = [.list rows] := hrows
      simpa using this.symm
    subst e
    have hm := List.mem_of_getElem? hy
    simp only [List.mem_cons, List.not_mem_nil, or_false] at hm
    exact ⟨y3, r1, pb, _, rr.2, h5, h1, hm, rfl⟩
end
end G

/-! GText: texts: slices, join, signs in texts; gcd; names drawn. -/
namespace G
open PySem PySem.Spec PyProof.Rows L2
section
variable {X : Cx} {W : WX} {e a b c o : Expr} {es : List Expr} {p p1 p2 pos pos' apos : Pos} {ρ ρ' ρ1 ρ2 ρ3 : En} {x u w : Str} {D : DE} {s t z sep : Str} {ys : List Str}
theorem pd_sliceS {lo hi : Option Expr} {ol oh : Option Int} (hz : s.length ≤ 100000) (h : PD X e ρ (.str s) ρ1) (hl : OD X lo ρ1 ol ρ2) (hh : OD X hi ρ2 oh ρ3) : PD X (.Subscript e (.Slice lo hi none p2) pos) ρ (.str (L2.cutS s ol oh)) ρ3 :=
  PE_imp (pe_slice sl_str h hl hh) fun σ H Q ⟨C, F, se, q⟩ => ⟨C, F, se, fun v F1 H1 x1 e1 r1 => ⟨C, F1, e1, fun F2 H2 x2 e2 => ⟨C, F2, e2, fun F3 H3 x3 e3 => by
    rw [rp_str r1]
    exact ⟨s, rfl, line_of hz, q _ F3 H3 (x1.trans (x2.trans x3)) e3 (.str _)⟩⟩⟩⟩
theorem pd_join (hz : (ys.map (·.length)).sum + ys.length * sep.length ≤ 16777216) (ho : PD X o ρ (.str sep) ρ1) (he : PD X e ρ1 (.list (ys.map .str)) ρ2) (hs : starEach [e] X.env = [(false, eval e X.env)] := by rfl)
    (hbase : attributeBase o "join" X.env (eval o X.env) = eval o X.env := by rfl) (hline : (apos.endLine == pos.line) = true := by rfl) : PD X (.Call (.Attribute o "join" apos) [e] [] pos) ρ (.str (Txt.join sep ys)) ρ2 :=
  PE_imp (pe_join ho he hs hbase hline) fun σ H Q ⟨C, F, se, q⟩ => ⟨C, F, se, fun v F1 H1 x1 e1 r1 => by
    rw [rp_str r1]
    refine ⟨⟨sep, rfl⟩, C, F1, e1, fun w F2 H2 x2 e2 r2 => ?_⟩
    cases r2 with
    | lst h1 h2 =>
      rw [h2.strs_inv] at h1
      exact ⟨sep, _, ys, rfl, rfl, .inl (e2.fr.ext.l h1), hz, q _ F2 H2 (x1.trans x2) e2 (.str _)⟩⟩
theorem td_notinSg {g : Nat} (ha : PD X a ρ (.str ⟨#[g]⟩) ρ1) (hb : PD X b ρ1 (.str z) ρ2) (hm : behindInMarks .NotIn b = false := by rfl) : TD X (.Compare a [.NotIn] [b] pos) ρ (!decide (g ∈ z.cps.toList)) ρ2 :=
  td_cmp op_notIn_sign (fun F H v w Q e r1 r2 q => ⟨g, z, rp_str r1, rp_str r2, q _ F H (.refl e) (.bl _)⟩) ha hb hm
theorem pd_gcd {i j : Int} (hm : X.mg x = some (.builtin "math.gcd")) (ha : PD X a ρ (.int i) ρ1) (hb : PD X b ρ1 (.int j) ρ2) (hg : Gl X x := by rfl) (hdb : (x == ("__debug__" : Str)) = false := by decide)
    (he : starEach [a, b] X.env = (false, eval a X.env) :: starEach [b] X.env := by rfl) (he2 : starEach [b] X.env = (false, eval b X.env) :: starEach [] X.env := by rfl) (hpl : (backTo pos (starEach [b] X.env)).any (·.1) = false := by rfl) :
    PD X (.Call (.Name x p) [a, b] [] pos) ρ (.int ((Nat.gcd i.natAbs j.natAbs : Nat) : Int)) ρ2 :=
  PE_imp (pe_callBfun cr_gcd hg hm (ad_cons ha (ad_cons hb ad_nil he2) he) hdb he hpl) fun σ H Q ⟨C, F, se, q⟩ => ⟨C, F, se, fun vs F1 H1 x1 e1 r1 => by
    obtain ⟨v, w, rfl, r1, r2⟩ := rpa_two r1
    exact ⟨i, j, by rw [rp_int r1, rp_int r2], q _ F1 H1 x1 e1 (.int _)⟩⟩
end
/-! ### signs of names -/
abbrev abc : Str := "abcdefghijklmnopqrstuvwxyz"
def ltr (i : Int) : Str := ⟨#[97 + i.toNat]⟩
theorem abc_at {i : Int} (h : 0 ≤ i ∧ i < 26) : atI abc.cps.toList i = some (97 + i.toNat) := by
  have key : ∀ n : Fin 26, atI abc.cps.toList ((n : Nat) : Int) = some (97 + (n : Nat)) := by decide +kernel
  have := key ⟨i.toNat, by omega⟩
  simpa [Int.toNat_of_nonneg h.1] using this
theorem abc_mem {c : Nat} : c ∈ abc.cps.toList ↔ 97 ≤ c ∧ c ≤ 122 := by
  have e : abc.cps.toList = (List.range 26).map (97 + ·) := by decide +kernel
  rw [e, List.mem_map]
  constructor
  · rintro ⟨k, hk, rfl⟩; have := List.mem_range.mp hk; omega
  · rintro ⟨h1, h2⟩; exact ⟨c - 97, List.mem_range.mpr (by omega), by omega⟩
def signsOk (s : Str) : Bool := s.cps.all fun c => decide (97 ≤ c) && decide (c ≤ 122)
theorem nmOk_iff {s : Str} : nmOk s = true ↔ signsOk s = true ∧ 1 ≤ s.length ∧ s.length ≤ 12 := by
  unfold nmOk signsOk
  rw [Bool.and_eq_true, Bool.and_eq_true, decide_eq_true_eq, decide_eq_true_eq]; exact Iff.rfl
theorem signsOk_iff {s : Str} : signsOk s = true ↔ ∀ c ∈ s.cps.toList, 97 ≤ c ∧ c ≤ 122 := by
  unfold signsOk
  rw [← Array.all_toList, List.all_eq_true]
  simp
theorem signsOk_ltr {i : Int} (h : 0 ≤ i ∧ i < 26) : signsOk (ltr i) = true := signsOk_iff.mpr fun c hc => by
  unfold ltr at hc; simp at hc; omega
theorem app_cps (s t : Str) : (s ++ t).cps.toList = s.cps.toList ++ t.cps.toList := by
  show (s.cps ++ t.cps).toList = _; simp
theorem len_app (s t : Str) : (s ++ t).length = s.length + t.length := by
  show (s.cps ++ t.cps).size = _; simp; rfl
theorem signsOk_app {s t : Str} (hs : signsOk s = true) (ht : signsOk t = true) : signsOk (s ++ t) = true := signsOk_iff.mpr fun c hc => by
  rw [app_cps] at hc
  rcases List.mem_append.mp hc with z | z
  · exact signsOk_iff.mp hs c z
  · exact signsOk_iff.mp ht c z
theorem cutS_lo (s : Str) {k : Int} (h0 : 0 ≤ k) (h : k ≤ (s.length : Int)) : (L2.cutS s none (some k)).cps.toList = s.cps.toList.take k.toNat := by
  obtain ⟨n, rfl⟩ : ∃ n : Nat, k = (n : Int) := ⟨k.toNat, by omega⟩
  unfold L2.cutS
  rw [HT.sIx_none, HT.sIx_nat, Nat.min_eq_left (by omega)]
  simp
theorem cutS_hi (s : Str) {k : Int} (h0 : 0 ≤ k) (h : k ≤ (s.length : Int)) : (L2.cutS s (some k) none).cps.toList = s.cps.toList.drop k.toNat := by
  obtain ⟨n, rfl⟩ : ∃ n : Nat, k = (n : Int) := ⟨k.toNat, by omega⟩
  unfold L2.cutS
  rw [HT.sIx_none, HT.sIx_nat, Nat.min_eq_left (by omega)]
  have e : s.cps.toList.length = s.length := by rw [Array.length_toList]; rfl
  show (List.toArray ((s.cps.toList.drop n).take (s.length - n))).toList = _
  rw [List.take_of_length_le (by rw [List.length_drop, e]; exact Nat.le_refl _)]
  simp
theorem len_cps (s : Str) : s.length = s.cps.toList.length := by rw [Array.length_toList]; rfl
theorem signsOk_cut {s : Str} (hs : signsOk s = true) {k : Int} (h0 : 0 ≤ k) (h : k ≤ (s.length : Int)) : signsOk (L2.cutS s none (some k)) = true ∧ signsOk (L2.cutS s (some k) none) = true := by
  refine ⟨signsOk_iff.mpr fun c hc => ?_, signsOk_iff.mpr fun c hc => ?_⟩
  · rw [cutS_lo s h0 h] at hc; exact signsOk_iff.mp hs c (List.mem_of_mem_take hc)
  · rw [cutS_hi s h0 h] at hc; exact signsOk_iff.mp hs c (List.mem_of_mem_drop hc)
theorem len_cut (s : Str) {k : Int} (h0 : 0 ≤ k) (h : k ≤ (s.length : Int)) : (L2.cutS s none (some k)).length = k.toNat ∧ (L2.cutS s (some k) none).length = s.length - k.toNat := by
  rw [len_cps, len_cps, cutS_lo s h0 h, cutS_hi s h0 h, List.length_take, List.length_drop, ← len_cps]; omega
theorem len_ltr (i : Int) : (ltr i).length = 1 := rfl
theorem joinL_nil : ∀ ps : List (List Nat), TL.joinL [] ps = ps.flatten
  | [] => rfl
  | [p] => by simp [TL.joinL]
  | p :: q :: r => by
    show p ++ ([] ++ TL.joinL [] (q :: r)) = _
    rw [joinL_nil (q :: r)]; simp
theorem join_cps (ys : List Str) : (Txt.join "" ys).cps.toList = (ys.map fun y : Str => y.cps.toList).flatten := by
  rw [TL.join_eq]
  have := TL.tl_join "" ys
  unfold TL.tl at this
  rw [this]
  exact joinL_nil _
theorem join_ok {ys : List Str} (h : ∀ y ∈ ys, signsOk y = true) : signsOk (Txt.join "" ys) = true := signsOk_iff.mpr fun c hc => by
  rw [join_cps, List.mem_flatten] at hc
  obtain ⟨l, hl, hc⟩ := hc
  obtain ⟨y, hy, rfl⟩ := List.mem_map.mp hl
  exact signsOk_iff.mp (h y hy) c hc
theorem join_len {ys : List Str} (h : ∀ y ∈ ys, y.length = 1) : (Txt.join "" ys).length = ys.length := by
  rw [len_cps, join_cps]
  induction ys with
  | nil => rfl
  | cons y ys ih =>
    rw [List.map_cons, List.flatten_cons, List.length_append, ih (fun z hz => h z (List.mem_cons_of_mem _ hz)), ← len_cps, h y (List.mem_cons_self ..), List.length_cons]; omega
theorem sum_ones {ys : List Str} (h : ∀ y ∈ ys, y.length = 1) : (ys.map (·.length)).sum = ys.length := by
  induction ys with
  | nil => rfl
  | cons y ys ih =>
    rw [List.map_cons, List.sum_cons, ih (fun z hz => h z (List.mem_cons_of_mem _ hz)), h y (List.mem_cons_self ..), List.length_cons]; omega
/-- a drawn name -/
def nmB (c : Str) (a f : Int) (k : Nat) : Str := (L2.cutS c none (some a) ++ (ltr ((f + (k : Int)) % 26) ++ ltr ((f + (k : Int) / 26 * 7 + (k : Int)) % 26))) ++ L2.cutS c (some a) none
theorem nmB_ok {c : Str} {a f : Int} (hc : signsOk c = true) (hl : c.length ≤ 10) (h0 : 0 ≤ a) (h : a ≤ (c.length : Int)) (k : Nat) : nmOk (nmB c a f k) = true := by
  obtain ⟨s1, s2⟩ := signsOk_cut hc h0 h
  obtain ⟨l1, l2⟩ := len_cut c h0 h
  rw [nmOk_iff]
  refine ⟨signsOk_app (signsOk_app s1 (signsOk_app (signsOk_ltr (by omega)) (signsOk_ltr (by omega)))) s2, ?_⟩
  unfold nmB
  rw [len_app, len_app, len_app, l1, l2, len_ltr, len_ltr]; omega
theorem nmB_ne {c : Str} {a f : Int} (h0 : 0 ≤ a) (h : a ≤ (c.length : Int)) {i j : Nat} (hi : i < 26) (hj : j < 26) (hij : i ≠ j) : nmB c a f i ≠ nmB c a f j := fun e => by
  have e2 : (nmB c a f i).cps.toList[a.toNat]? = (nmB c a f j).cps.toList[a.toNat]? := by rw [e]
  have at_ : ∀ k : Nat, (nmB c a f k).cps.toList[a.toNat]? = some (97 + ((f + (k : Int)) % 26).toNat) := fun k => by
    have l1 : ((L2.cutS c none (some a)).cps.toList).length = a.toNat := by rw [← len_cps]; exact (len_cut c h0 h).1
    unfold nmB
    rw [app_cps, app_cps, app_cps, List.append_assoc, List.getElem?_append_right (by omega), l1, Nat.sub_self]
    rfl
  rw [at_, at_] at e2
  have := Option.some.inj e2
  omega
theorem ltr_ok {i : Int} (h : 0 ≤ i ∧ i < 26) : nmOk (ltr i) = true := nmOk_iff.mpr ⟨signsOk_ltr h, by rw [len_ltr]; omega⟩
theorem ltr_inj {i j : Int} (hi : 0 ≤ i) (hj : 0 ≤ j) (h : ltr i = ltr j) : i = j := by
  unfold ltr at h
  injection h with h
  have := congrArg Array.toList h
  simp at this
  omega
/-- names that are unlike -/
def NmsOk (n : Int) (z : List Nm) : Prop := (z.length : Int) = n ∧ z.Nodup
theorem nms_of {xs : List Str} (h : ∀ x ∈ xs, nmOk x = true) : ∃ z : List Nm, z.map (·.1) = xs := by
  induction xs with
  | nil => exact ⟨[], rfl⟩
  | cons x xs ih =>
    obtain ⟨z, hz⟩ := ih fun y hy => h y (List.mem_cons_of_mem _ hy)
    exact ⟨⟨x, h x (List.mem_cons_self ..)⟩ :: z, by rw [List.map_cons, hz]⟩
theorem nms_fam {n : Nat} (g : Nat → Str) (hg : ∀ k, k < n → nmOk (g k) = true) (hi : ∀ i j, i < n → j < n → g i = g j → i = j) : ∃ z : List Nm, dL PyData.str ((List.range n).map g) = dL dNm z ∧ NmsOk (n : Int) z := by
  obtain ⟨z, hz⟩ := nms_of (xs := (List.range n).map g) fun x hx => by
    obtain ⟨k, hk, rfl⟩ := List.mem_map.mp hx
    exact hg k (List.mem_range.mp hk)
  have nd : ((List.range n).map g).Nodup := by
    rw [List.nodup_iff_pairwise_ne, List.pairwise_map]
    exact (List.nodup_iff_pairwise_ne.mp List.nodup_range).imp_of_mem fun ha hb ne e => ne (hi _ _ (List.mem_range.mp ha) (List.mem_range.mp hb) e)
  refine ⟨z, ?_, ?_, ?_⟩
  · show PyData.list _ = PyData.list _
    rw [← hz, List.map_map]; rfl
  · have := congrArg List.length hz
    rw [List.length_map, List.length_map, List.length_range] at this
    omega
  · rw [← hz] at nd
    rw [List.nodup_iff_pairwise_ne, List.pairwise_map] at nd
    exact List.nodup_iff_pairwise_ne.mpr (nd.imp fun h e => h (by rw [e]))
end G

/-! GNot: an own exception whose __init__ says super().__init__(f) and self.f = f. -/
namespace G
open PySem PySem.Spec PyProof.Rows L2 PySem.Calls
/-- the __init__'s text -/
abbrev initB (f : Str) (e3 : Expr) (p0 p1 p2 p4 p5 p6 p7 p8 p9 : Pos) : List Stmt := [.Expr (.Call (.Attribute (.Call (.Name "super" p0) [] [] p1) "__init__" p2) [e3] [] p4) p5, .Assign [.Attribute (.Name "self" p6) f p7] (.Name f p8) p9]
/-- what super().__init__ is given: f itself, or a text and f -/
def ArgF (f : Str) (b : Bool) (e3 : Expr) : Prop := (b = false ∧ ∃ p3, e3 = .Name f p3) ∨ (b = true ∧ ∃ (x : Str) (j : Nat) (q1 q2 q3 q4 q5 : Pos), e3 = .BinOp (.Constant (.str x) j q1) .Add (.Call (.Name "str" q2) [.Name f q3] [] q4) q5 ∧ x.length ≤ 100)
def OkF (b : Bool) (v : V) : Prop := b = true → ∃ i : Int, v = .int i ∧ Sml i
/-- what the top has written of it -/
structure InitF (P : Program) (K : PySem.W.Frag) (C fI : Addr) (f : Str) (b : Bool) (fd : FuncData) : Prop where
  lk : ∃ oc od osl, K.lookup fI = some ⟨oc, od, .func fd, osl⟩
  body : ∃ e3 p0 p1 p2 p4 p5 p6 p7 p8 p9, fd.body = .stmts (initB f e3 p0 p1 p2 p4 p5 p6 p7 p8 p9) ∧ ArgF f b e3 ∧ (p2.endLine == p4.line) = true
  str_ : b = true → fd.scope.names.lookup ("str" : Str) = some .globalImplicit
  par : ∃ a1 q1 a2 q2, fd.params = ⟨[], [⟨"self", a1, q1⟩, ⟨f, a2, q2⟩], none, [], [], none, []⟩
  dfl : fd.defaults = .none
  code : ∃ cc oc od osl vs file tf, fd.code = .ref cc ∧ K.lookup cc = some ⟨oc, od, .fields vs, osl⟩ ∧ vs[2]? = some (.str file tf) ∧ (P.main.file == file) = true
  codeq : PySem.W.codeIn K fd.code fd.qualname = true
  clo : ∃ c oc od osl, fd.closure = [(("__class__" : Str), c)] ∧ K.lookup c = some ⟨oc, od, .cell (some (.ref C)), osl⟩
  glob : fd.globals = mainGlobals
  blt : fd.builtins = builtinsNs
  kind : fd.scope.kind = .function
  co : fd.scope.isCoroutine = false
  gen : fd.scope.isGenerator = false
  self_ : fd.scope.names.lookup ("self" : Str) = some .local
  f_ : fd.scope.names.lookup f = some .local
  sup : fd.scope.names.lookup ("super" : Str) = some .globalImplicit
  cls : fd.scope.names.lookup ("__class__" : Str) = some .free
  nocell : ∀ y ∈ fd.scope.names, y.2 ≠ .cell
  free : ∀ y ∈ fd.scope.names, y.2 = .free → y.1 = ("__class__" : Str)
  fne : f ≠ "self" ∧ f ≠ "__class__" ∧ (f == ("__debug__" : Str)) = false ∧ (f == ("__classdict__" : Str)) = false
/-- what the class keeps -/
structure SupC (P : Program) (K : PySem.W.Frag) (mg : Str → Option Value) (C : Addr) (f : Str) (b : Bool) : Prop where
  noStr : b = true → mg ("str" : Str) = none
  oex : OexC K C
  sup : PySem.W.ks_superIn K C C "__init__" = some (some (.builtin "ValueError.__init__"))
  opq : PySem.W.nsIn K cStatics "thirdparty.any" = some none
  isV : PySem.W.subIn K (.ref C) (.type "ValueError") = some true
  noF : PySem.W.findIn K (.ref C) f = some none
  refl : PySem.W.subIn K (.ref C) (.ref C) = some true
  noS : mg ("super" : Str) = none
  top : (P.main.scope.names.lookup ("super" : Str)).isSome = false
def spIni (C : Addr) (f : Str) (b : Bool) : Sp := fun vs H Q E => ∃ a v, vs = [.ref a, v] ∧ OkF b v ∧ H a = some (exo a C none) ∧ ∀ d, H d = none → d ≠ a → Q .non (upd (upd H d (exd d [(f, v)])) a (exo a C (some d)))
theorem super_eval {env : Env} {o e3 : Expr} {name : Str} {apos pos : Pos} (h : (apos.endLine == pos.line) = true) (h2 : methodCallForm 1 (backTo pos (starEach [e3] env)) [] = true) : eval (.Call (.Attribute o name apos) [e3] [] pos) env = (do
      let ov ← attributeBase o name env (eval o env)
      standAt apos.atName
      let (f, first) ← holding [ov] (getMethod ov name (do return (← importBound o env).getD true))
      callWith pos f first (backTo pos (starEach [e3] env)) []) := by
  show (do
    let ov ← attributeBase o name env (eval o env)
    standAt apos.atName
    methodCall o name apos pos env ov 1 (backTo pos (starEach [e3] env)) []) = _
  have form := h2
  unfold methodCall methodCallPos calleeOf
  rw [form]
  simp only [h, Bool.not_true, Bool.false_or, if_true, pure_bind]
section
variable {P : Program} {w : World} {K : PySem.W.Frag} {mg : Str → Option Value} {base : Heap} {CX : CXT} {C fI : Addr} {f : Str} {b : Bool} {fd : FuncData}
theorem self_look {f : Str} {u : Value} {a : Addr} (h : f ≠ "self") : (([("self" : Str), f].zip [Value.ref a, u]).reverse).lookup ("self" : Str) = some (.ref a) := by
  have q : (("self" : Str) == f) = false := by rw [beq_eq_false_iff_ne]; exact fun z => h z.symm
  show (match (("self" : Str) == f) with | true => some u | false => [(("self" : Str), Value.ref a)].lookup ("self" : Str)) = _
  rw [q]; rfl
/-- the call's context -/
def cxIni (P : Program) (w : World) (K : PySem.W.Frag) (mg : Str → Option Value) (base : Heap) (f : Str) (fd : FuncData) (fI : Addr) (A : Around) (outer : List Env) (s : Shared) (H : Hp) (xe : Value → Shared → Prop) : Cx where
  prog := P
  w := w
  K := K
  mg := mg
  base := base
  A := A.deeper (callEnv fd s.heap.objs.size fI)
  N := [("self" : Str), f]
  s_0 := s
  H_0 := H
  env := callEnv fd s.heap.objs.size fI
  outer := outer
  stack := callEnv fd s.heap.objs.size fI :: outer
  ex := []
  calm := true
  fn := fun _ => false
  pn := []
  xe := xe
theorem init_inv (I : InitF P K C fI f b fd) {A : Around} {outer : List Env} {s : Shared} {H : Hp} {a : Addr} {v : V} {u : Value} {xe : Value → Shared → Prop} {h₀ : Heap} {t : Nat} (hd : A.handled = none) (e0 : Env0 P w K mg base A outer s H) (rv : RelV v u)
    (hn : h₀.Ns s.heap.objs.size (fun x => [(f, u), (("self" : Str), Value.ref a)].lookup x)) (hk : ∀ b o, s.heap.get? b = some o → h₀.get? b = some o) :
    Inv (cxIni P w K mg base f fd fI A outer s H xe) [] (L2.start [("self" : Str), f] [.ref a, v]) H { s with heap := h₀, toks := t } := by
  obtain ⟨c, oc, od, osl, hc, hcl⟩ := I.clo
  have KX : K.In s.heap := e0.mod.kin.keeps fun b o e => (e0.bs b o e).1
  have lc : ∀ x c', (callEnv fd s.heap.objs.size fI).cells.lookup x = some c' → x = ("__class__" : Str) ∧ c' = c := fun x c' e => by
    have e' : fd.closure.lookup x = some c' := e
    rw [hc] at e'
    have e2 : (match x == ("__class__" : Str) with | true => some c | false => ([] : List (Str × Addr)).lookup x) = some c' := e'
    cases q : (x == ("__class__" : Str)) with
    | true => rw [q] at e2; cases e2; exact ⟨beq_iff_eq.mp q, rfl⟩
    | false => rw [q] at e2; cases e2
  have noA : ∀ b : Addr, b ∉ (cxIni P w K mg base f fd fI A outer s H xe).ex := fun b z => absurd (show b ∈ ([] : List Addr) from z) (by simp)
  refine ⟨⟨e0.mod, I.kind, I.glob, I.blt, Nat.le_refl _, fun y z c' h1 h2 => ?_, fun y hy => ?_, fun y c' h _ => ?_, fun _ => hd, Around.frames_deeper e0.frames, .inr ⟨rfl, ?_⟩, fun b z => absurd z (noA b), e0.bs, e0.bsz, fun b _ _ => noA b, fun b z => absurd z (noA b), e0.funs, e0.frf⟩,
    rfl, e0.bare, Un.kept hk, ⟨_, hn, fun i y v' h1 h2 h3 => ?_⟩, fun y c' h => ?_, e0.hok.fresh (Nat.le_refl _), fun y c' h => ?_, fun p hp => absurd (show p ∈ ([] : List (Addr × Obj)) from hp) (by simp), e0.hok.kept hk, rfl⟩
  · rw [(lc y c' h1).1, (lc z c' h2).1]
  · have hy : fd.scope.names.lookup y = some .cell ∨ fd.scope.names.lookup y = some .free := hy
    rcases hy with hy | hy
    · exact absurd rfl (I.nocell _ (PySem.mem_of_lookup hy))
    · have : y = ("__class__" : Str) := I.free _ (PySem.mem_of_lookup hy) rfl
      subst this
      exact ⟨c, by show fd.closure.lookup _ = _; rw [hc]; rfl⟩
  · cases h
  · rfl
  · match i, h1, h2 with
    | 0, h1, h2 =>
      cases h1; cases h2
      exact ⟨_, rfl, .inl ⟨I.self_, by
        have q : (("self" : Str) == f) = false := by rw [beq_eq_false_iff_ne]; exact fun z => I.fne.1 z.symm
        show (match (("self" : Str) == f) with | true => some u | false => [(("self" : Str), Value.ref a)].lookup ("self" : Str)) = _
        rw [q]; rfl⟩⟩
    | 1, h1, h2 =>
      cases h1; cases h2
      exact ⟨u, rv, .inl ⟨I.f_, by
        show (match (f == f) with | true => some u | false => _) = _
        rw [beq_self_eq_true]⟩⟩
    | (n + 2), h1, _ => cases h1
  · obtain ⟨rfl, rfl⟩ := lc y c' h
    exact ⟨_, _, hk _ _ (KX _ _ hcl), rfl⟩
  · obtain ⟨rfl, rfl⟩ := lc y c' h
    exact (e0.bs _ _ (e0.mod.kin _ _ hcl)).2
def tArg (a : V) (v : V) (σ0 : L2.St) : TA := fun σ H Q => σ = σ0 ∧ ∀ u, Q [u] H
open PySem.W in
theorem arg_pa (w : World) (base : Heap) (I : InitF P K C fI f b fd) (S : SupC P K mg C f b) {A : Around} {outer : List Env} {s : Shared} {H : Hp} {a : Addr} {v : V} {e3 : Expr} (h3 : ArgF f b e3) (hv : OkF b v) :
    PA (cxIni P w K mg base f fd fI A outer s H fun _ _ => False) [e3] (tArg (.ref a) v (L2.start [("self" : Str), f] [.ref a, v])) ∧ (∀ env, starEach [e3] env = [(false, eval e3 env)]) := by
  rcases h3 with ⟨rfl, p3, rfl⟩ | ⟨rfl, x, j, q1, q2, q3, q4, q5, rfl, hx⟩
  · refine ⟨⟨fun pos pins s1 σ H1 Q J h => ?_⟩, fun _ => rfl⟩
    obtain ⟨rfl, q⟩ := h
    exact (pa_cons (X := cxIni P w K mg base f fd fI A outer s H fun _ _ => False) (pe_var (i := 1) (x := f) (pos := p3) rfl (Or.inl I.f_) I.fne.2.2.1 I.fne.2.2.2) pa_nil rfl).run pos pins s1 _ H1 Q J ⟨v, rfl, q v⟩
  · obtain ⟨i, rfl, hi⟩ := hv rfl
    refine ⟨⟨fun pos pins s1 σ H1 Q J h => ?_⟩, fun _ => rfl⟩
    obtain ⟨rfl, q⟩ := h
    have pv := pe_var (X := cxIni P w K mg base f fd fI A outer s H fun _ _ => False) (i := 1) (x := f) (pos := q3) rfl (Or.inl I.f_) I.fne.2.2.1 I.fne.2.2.2
    have ps := pe_callTy (X := cxIni P w K mg base f fd fI A outer s H fun _ _ => False) (pos := q4) (p := q2) (x := "str") call_str_int (show Gl _ _ from I.str_ rfl) (S.noStr rfl) (by rfl) (pa_cons pv pa_nil rfl)
    have pb := pe_op (X := cxIni P w K mg base f fd fI A outer s H fun _ _ => False) (pos := q5) op_add_str (pe_str (x := x) (j := j) (pos := q1)) ps
    exact (pa_cons pb pa_nil rfl).run pos pins s1 _ H1 Q J ⟨.int i, rfl, i, rfl, hi.2, x, _, rfl, rfl, Nat.le_trans (Nat.add_le_add hx hi.1) (by decide), q _⟩
open PySem.W in
theorem init_fn (I : InitF P K C fI f b fd) (S : SupC P K mg C f b) : FnOk P w K mg base CX 1 fI fd [("self" : Str), f] (spIni C f b) := by
  refine ⟨fun vs H Q E h => by obtain ⟨a, v, rfl, _⟩ := h; rfl, fun A outer s H args us vs Q E hr e0 hb r hsp => ?_⟩
  obtain ⟨a, v, rfl, hov, ea, q⟩ := hsp
  obtain ⟨u, rfl, rv⟩ : ∃ u, us = [.ref a, u] ∧ RelV v u := by
    cases r with
    | cons ra r2 =>
      cases r2 with
      | cons rb r3 =>
        cases r3
        exact ⟨_, by rw [show _ = Value.ref a from ra], rb⟩
  obtain ⟨oc, od, osl, lk⟩ := I.lk
  obtain ⟨e3, p0, p1, p2, p4, p5, p6, p7, p8, p9, hbody, he3, hline⟩ := I.body
  have hAP := fun (A' : Around) (s' : Shared) => (arg_pa w base I S (A := A') (outer := outer) (s := s') (H := H) (a := a) he3 hov).2
  have KX : K.In s.heap := e0.mod.kin.keeps fun b o e => (e0.bs b o e).1
  have lim : s.heap.NoLimit := e0.mod.nolimit.keeps fun b o e => (e0.bs b o e).1
  refine ks_codeAny_call_defAt hr.depth (KX _ _ lk) rfl lim (PySem.W.codeRec_of KX I.codeq) hbody hb I.nocell (fun x hx => ?_) (fun h₀ hn hk => ?_) I.co I.gen I.kind
  · have : x = (("self" : Str), Value.ref a) ∨ x = (f, u) := by
      have hx' : x ∈ [(("self" : Str), Value.ref a), (f, u)] := hx
      simpa using hx'
    rcases this with rfl | rfl
    · exact I.self_
    · exact I.f_
  · have J := init_inv (P := P) (w := w) (K := K) (mg := mg) (base := base) (xe := fun _ _ => False) (t := s.toks + ([("self" : Str), f].zip [Value.ref a, u]).length) I hr.hd e0 rv hn hk
    obtain ⟨nm, qn, N, bs, bm, sn, sub, ab, col, dd, k0, k1, k2, k3, k5, hCl, hbm⟩ := S.oex.cls
    obtain ⟨a1, q1, a2, q2, hpar⟩ := I.par
    obtain ⟨cc, occ, odc, oslc, vs, file, tf, hco, hcc, hvs, hfile⟩ := I.code
    obtain ⟨cl, ocl, odl, osll, hclo, hcl⟩ := I.clo
    have KJ := J.kIn
    have hC := KJ _ _ hCl
    have hcs : PySem.W.clsIn K C = some { name := nm, bases := bs, mro := .ref C :: bm, ns := N, qualname := qn, hasDict := true, slotNames := sn, subclasses := sub, abstract := ab, collection := col, hasDel := false } := by unfold PySem.W.clsIn; rw [hCl] <;> rfl
    refine ks_wpAt_execs_cons (ks_wpAt_Expr_any (hi := ?hi) (ks_wpAt_MethodCall (he := super_eval hline (by rw [hAP A s]; rfl)) (ks_wpAt_super_base (attr := "__init__") (f := fI) (cc := cc) (I.sup) (I.cls) (by decide) rfl (hk _ _ (KX _ _ lk)) rfl (ar := ⟨"self", a1, q1⟩) (by rw [hpar]; rfl) hco (KJ _ _ hcc) rfl hvs hfile S.top ?_)))
    case hi => unfold interactive; rw [show (callEnv fd s.heap.objs.size fI).scope.kind = .function from I.kind]; rfl
    rw [loadName_read (show (callEnv fd s.heap.objs.size fI).scope.kind = .function from I.kind) (show (callEnv fd s.heap.objs.size fI).kindOf ("super" : Str) = some .globalImplicit from I.sup)]
    obtain ⟨mb, hb1, hb2⟩ := J.mod.blt
    refine Calls.loadGlobal_builtin (mg := mg) (mb := mb) (by rw [show (callEnv fd s.heap.objs.size fI).globals = mainGlobals from I.glob]; exact J.mod.glob.keeps J.bk) S.noS (by rw [show (callEnv fd s.heap.objs.size fI).builtins = builtinsNs from I.blt]; exact hb1.keeps J.bk) ((hb2 "super" (by decide)).trans (by show _ = some (Value.type "super"); decide +kernel)) ?_
    refine ⟨rfl, ?_⟩
    refine wpAny_loadName_free (c := cl) (v := .ref C) (show (callEnv fd s.heap.objs.size fI).scope.kind = .function from I.kind) I.cls (by show fd.closure.lookup _ = _; rw [hclo]; rfl) ⟨_, KJ _ _ hcl, rfl⟩ ?_
    refine wpAny_loadName_local (show (callEnv fd s.heap.objs.size fI).scope.kind = .function from I.kind) I.self_ hn (v := .ref a) ?_ ?_
    · exact self_look I.fne.1
    refine ks_wpAny_isType_cls hC rfl ?_
    refine ⟨rfl, ?_⟩
    obtain ⟨t1, hex⟩ := exo_at J.hok ea
    refine ks_wpAny_call_super hC rfl hex rfl (fun c z => by cases z) (looks_subIn KJ S.refl) (fun h1 hso k1 => ?_)
    have J1 := J.kept (t' := s.toks + ([("self" : Str), f].zip [Value.ref a, u]).length) k1
    have hex1 := k1 _ _ hex
    have IA : InstAt h1 a ({ cls := .ref C, dict := none, data := .fields #[.ref t1, .none, .none, .none, .bool false, .none] } : Obj) C none := ⟨hex1, rfl, rfl, trivial⟩
    have K1 : K.In h1 := J1.kIn
    refine kxs_getMethod kxs_ValueError hso (looks_opaque K1 S.opq) (l₀ := .ref C :: bm) (fun A Q E s k q => wpAny_bind ((looks_clsIn K1 hcs) A _ E s k (wpAny_pure q))) rfl K1 (by have := S.sup; unfold ks_superIn at this; rw [hcs] at this; exact this) (IA.type.andThen (looks_subIn K1 S.isV)) (ks_ne K1 IA hcs) (by decide) ?_
    have J2 := J1.kept (t' := s.toks + ([("self" : Str), f].zip [Value.ref a, u]).length + 1) (h' := h1.push (kxs_mw "ValueError.__init__" a)) fun b o e => Heap.get?_push_of_some _ e
    have J2p : L2.Inv (cxIni P w K mg base f fd fI A outer s H fun _ _ => False) [(h1.objs.size, kxs_mw "ValueError.__init__" a)] (L2.start [("self" : Str), f] [.ref a, v]) H { s with heap := h1.push (kxs_mw "ValueError.__init__" a), toks := s.toks + ([("self" : Str), f].zip [Value.ref a, u]).length + 1 } :=
      ⟨J2.ok, J2.os, J2.bare, J2.base, J2.loc, J2.cell, J2.free, J2.freeC, fun p hp => by
        have hp' : p ∈ [(h1.objs.size, kxs_mw "ValueError.__init__" a)] := hp
        rw [List.mem_singleton] at hp'
        subst hp'
        exact ⟨Heap.get?_push_at rfl rfl, J1.hok.fresh (Nat.le_refl _), Nat.ne_of_gt J1.lt, J1.nofs (Nat.le_refl _), fun v z => by cases z⟩, J2.hok, J2.len⟩
    show wpAny _ _ (callWith p4 (Value.ref h1.objs.size) [] (backTo p4 (starEach [e3] (callEnv fd s.heap.objs.size fI))) []) _ _ _
    refine kxs_callWith (i := "ValueError.__init__") (x := a) (by rw [hAP A s]; rfl) ?_
    have ar := (arg_pa w base I S (A := A) (outer := outer) (s := s) (H := H) (a := a) he3 hov).1
    have arr := ar.run p4 _ _ _ H (fun vs H' => (∃ v', vs = [v']) ∧ H' = H) J2p ⟨rfl, fun u => ⟨⟨u, rfl⟩, rfl⟩⟩
    have eS : starEach [e3] (cxIni P w K mg base f fd fI A outer s H fun _ _ => False).env = [(false, eval e3 (callEnv fd s.heap.objs.size fI))] := hAP A s _
    rw [eS] at arr
    rw [hAP A s]
    refine evalArgs_plain (wpAny_mono arr (fun us s1 hs => ?_) fun _ _ (z : False) => z.elim)
    obtain ⟨vs1, H1, J3, rr, ⟨v', hv1⟩, hH1⟩ := hs
    rw [hH1] at J3
    rw [hv1] at rr
    obtain ⟨u1, rfl, rv1⟩ : ∃ u1, us = [u1] ∧ RelV v' u1 := by
      cases rr with
      | cons ra r2 =>
        cases r2
        exact ⟨_, rfl, ra⟩
    have hmw : KxsAt "ValueError.__init__" h1.objs.size a s1.heap := (J3.pin (h1.objs.size, kxs_mw "ValueError.__init__" a) (by simp)).1
    refine ⟨hmw, ?_⟩
    obtain ⟨t2, hex2⟩ := exo_at J3.hok ea
    have hC3 := J3.kIn _ _ hCl
    refine wpAny_call (codeAny_of_tree ?_)
    show wpAny _ _ (callAny (.ref h1.objs.size) ⟨[u1], []⟩) _ _ _
    simp only [callAny]
    refine wpAny_bind (wpAny_load hmw ?_)
    simp only [kxs_mw, show (Value.type "method-wrapper" == Value.type "method" || Value.type "method-wrapper" == Value.type "builtin_function_or_method" || Value.type "method-wrapper" == Value.type "method-wrapper") = true by decide, if_true]
    refine KFB.if_so (by decide) ?_
    obtain ⟨hp3, g3, d3, t3, os3⟩ := s1
    refine wpAny_bind (check_bound_init PySem.F.excBase_ValueError.toExcCallFacts hC3 hex2 rfl ?_)
    refine wpAny_bind (wpAny_pure (wpAny_pure ?_))
    refine ⟨plainId_quiet PySem.F.excBase_ValueError.init.plain _, codeAny_builtin PySem.F.excBase_ValueError.initEntry ?_⟩
    refine exc_init_tree (cls := .ref C) (t0 := t2) (dv := none) (c2 := .none) (c3 := .none) (b4 := .bool false) hex2 (by show 1 ≤ sizeLine; decide) (fun h' k' e' _ => ?_)
    have J3' : L2.Inv (cxIni P w K mg base f fd fI A outer s H fun _ _ => False) [] (L2.start [("self" : Str), f] [.ref a, v]) H ⟨hp3, g3, d3, t3, os3⟩ := ⟨J3.ok, J3.os, J3.bare, J3.base, J3.loc, J3.cell, J3.free, J3.freeC, fun p hp => absurd (show p ∈ ([] : List (Addr × Obj)) from hp) (by simp), J3.hok, J3.len⟩
    have J4 := J3'.write (t' := t3) (x := a) (e := a) (o := exo a C none) (by rw [ea]; exact True.intro) (.inl rfl) k' ⟨_, e'⟩ (exo_ok e')
    have eu : upd H a (exo a C none) = H := by
      funext b
      by_cases hb : b = a
      · rw [hb, upd_same, ea]
      · rw [upd_ne hb]
    rw [eu] at J4
    have ps := ps_ost (X := cxIni P w K mg base f fd fI A outer s H fun _ _ => False) (f := f) (p' := p7) (pos := p9) (pe_var (i := 0) (x := "self") (pos := p6) rfl (Or.inl I.self_)) (pe_var (i := 1) (x := f) (pos := p8) rfl (Or.inl I.f_) I.fne.2.2.1 I.fne.2.2.2)
    show PySem.wpAt _ _ _ (execs [Stmt.Assign [(Expr.Name (Str.ofString "self") p6).Attribute f p7] (Expr.Name f p8) p9] (callEnv fd s.heap.objs.size fI)) _ _ _
    refine ks_wpAt_execs_cons (wpAt_of_wpAny (wpAny_mono (ps.run [] _ _ H { nx := fun _ H' => Q .non H', rt := fun _ _ => False } J4 ⟨v, rfl, .ref a, rfl, a, C, rfl, S.oex, S.noF, .inl ⟨ea, fun dx n ne => q dx n ne⟩⟩) (fun fl s' hs => ?_) fun _ _ (z : False) => z.elim))
    cases fl with
    | next =>
      obtain ⟨σ', H', J5, q5⟩ := hs
      show PySem.wpAt _ _ _ (execs [] (callEnv fd s.heap.objs.size fI)) _ _ _
      refine wpAt_of_wpAny ?_
      show wpAny _ _ (pure Flow.next) _ _ _
      exact wpAny_pure ⟨.non, H', J5.os, J5.bare, J5.base, J5.hok, rfl, q5⟩
    | ret u => obtain ⟨_, _, _, _, _, z⟩ := hs; exact False.elim z
    | brk => obtain ⟨_, _, _, z⟩ := hs; exact False.elim z
    | cont => obtain ⟨_, _, _, z⟩ := hs; exact False.elim z
end
section
variable {X : Cx} {W : WX} {e : Expr} {es : List Expr} {ta : TA} {p p1 pos pos' : Pos} {CX : CXT} {x : Str} {C fI : Addr} {k : Nat} {fd : FuncData} {ps : List Str} {sp : Sp}
/-- C(e, ..) by C's own __init__, its context None -/
theorem pmk_own (T : OexC X.K C) (iC : PySem.W.findIn X.K (.ref C) "__init__" = some (some (.ref fI))) (tI : PySem.W.typeIn X.K (.ref fI) = some (.type "function"))
    (F1 : FnOk X.prog X.w X.K X.mg X.base CX k fI fd ps sp) (hr : Room (k + 1) X.A) (hb : Binds X.K fd ps []) (hx : Passes CX X (fun _ _ _ => False)) (hg : Gl X x) (hm : X.mg x = some (.ref C)) (ha : PA X (e :: es) ta)
    (hdb : (x == ("__debug__" : Str)) = false := by decide) (he : starEach (e :: es) X.env = (false, eval e X.env) :: starEach es X.env := by rfl) (hpl : (backTo pos (starEach es X.env)).any (·.1) = false := by rfl) :
    L2N.PMk X (.Call (.Name x p) (e :: es) [] pos) (tMkO C sp [] ta) := by
  intro pins s σ H Q I h
  obtain ⟨nm, q, N, bs, bm, sn, sub, ab, col, dd, k0, k1, k2, k3, k5, hC, hbm⟩ := T.cls
  refine wpAny_Call_Name_kw (ld_glob I hg hm ?_ hdb)
  refine PySem.W.callWith_K (h₀ := X.base) I.ok.mod.kin T.kC (thn (ha.run pos pins s σ H _ I h) fun us s1 ⟨vs, H1, I1, r1, hz, q1⟩ => ⟨I1.kIn, ?_⟩) he hpl
  show wpAny _ _ (call (.ref C) us) _ _ _
  obtain ⟨hp, g, dr, tk, os⟩ := s1
  have hsz : hp.objs.size ≤ hp.objs.size + 1 := Nat.le_succ _
  have hq := q1 (hp.objs.size + 1) (I1.hok.fresh hsz)
  have kk : ∀ b o, hp.get? b = some o → ((hp.push (PySem.W.kdv_tup us)).push (PySem.HandSPX.excO C hp.objs.size)).get? b = some o := fun b o e => Heap.get?_push_of_some _ (Heap.get?_push_of_some _ e)
  have hget : ((hp.push (PySem.W.kdv_tup us)).push (PySem.HandSPX.excO C hp.objs.size)).get? (hp.objs.size + 1) = some (PySem.HandSPX.excO C hp.objs.size) := by heap_get
  have I2 : L2.Inv X pins σ (upd H1 (hp.objs.size + 1) (exo (hp.objs.size + 1) C none)) ⟨(hp.push (PySem.W.kdv_tup us)).push (PySem.HandSPX.excO C hp.objs.size), g, dr, tk, os⟩ :=
    I1.laid (t' := tk) (a := hp.objs.size + 1) (o := exo (hp.objs.size + 1) C none) (h' := (hp.push (PySem.W.kdv_tup us)).push (PySem.HandSPX.excO C hp.objs.size)) kk hsz (exo_ok hget)
  rw [List.append_nil] at hq
  have r2 : Vals (V.ref (hp.objs.size + 1) :: vs) (Value.ref (hp.objs.size + 1) :: us) := .cons rfl r1
  have hl : ((Value.ref (hp.objs.size + 1) :: us) ++ ([] : List Value)).length = ps.length := by
    have e := r2.length
    rw [F1.len _ _ _ _ hq] at e
    rw [List.append_nil]
    exact e.symm
  have hus : us.length ≤ sizeLine := by
    rw [← Paired.length r1, sizeLine_eq]
    omega
  have hb2 := hb _ (Value.ref (hp.objs.size + 1) :: us) I2.kIn hl
  rw [List.append_nil] at hb2
  refine wpAny_call (PySem.HandSPX.call_own PySem.F.excBase_ValueError (fun Y => PySem.HandSPX.refsVE_contains Y bm hbm) (I1.kIn _ _ hC) (PySem.W.looks_findIn I1.kIn iC) (fun self => PySem.W.bind_fn I1.kIn self tI) hus
    (codeAny_mono (F1.run _ X.stack _ _ ⟨Value.ref (hp.objs.size + 1) :: us, []⟩ (Value.ref (hp.objs.size + 1) :: us) _ _ (fun _ _ _ => False) (hr.make C us []) (I2.env0.make C us []) hb2 r2 hq) fun r s' hq' => ?_))
  cases r with
  | error er => exact hx pins σ _ _ er s' I2 hq'
  | ok fl =>
    cases fl with
    | ret u =>
      obtain ⟨v, H2, os2, bare2, un2, hok2, rv, ev, d, fs, ea, ed, hd1, q2⟩ := hq'
      subst ev
      obtain ⟨h2, g2, d2, t2, os'⟩ := s'
      obtain ⟨t0, G, J, kG, ge, hoe, na⟩ := mk_end0 (d2 := d2) (t2 := t2) I1 hsz kk un2 hok2 os2 bare2 ea ed hd1
      exact ⟨rv, ⟨hp.objs.size + 1, _, _, ⟨G, g2, d2, t2, os'⟩, _, .ref C, some d, rfl, J, kG, ge, hoe, ⟨rfl, rfl, fun vs e => by cases e; rfl⟩, rfl, rfl, na, rfl, bare2, raises_own T.exC T.tyC, q2⟩⟩
    | next => exact False.elim hq'
    | brk => exact False.elim hq'
    | cont => exact False.elim hq'
end
/-- binding self and f: at a written f by rfl -/
def IniB (f : Str) : Prop := ∀ (n1 n2 : Str) (a1 a2 : Option Expr) (q1 q2 : Pos) (n4 : FuncBody) (n5 : Scope) (n6 : Addr) (n7 : List (Str × Addr)) (n9 n10 n11 : Value) (n12 : Option Addr) (n13 n14 : Value) (n15 : Addr) (x y : Value),
  bindArgs ⟨n1, n2, ⟨[], [⟨"self", a1, q1⟩, ⟨f, a2, q2⟩], none, [], [], none, []⟩, n4, n5, n6, n7, .none, n9, n10, n11, n12, n13, n14, n15⟩ ⟨[x, y], []⟩ = pure ([("self" : Str), f].zip [x, y])
theorem ini_reason : IniB "reason" := fun _ _ _ _ _ _ _ _ _ _ _ _ _ _ _ _ _ _ _ => rfl
theorem ini_line : IniB "line" := fun _ _ _ _ _ _ _ _ _ _ _ _ _ _ _ _ _ _ _ => rfl
theorem init_binds {P : Program} {K : PySem.W.Frag} {C fI : Addr} {f : Str} {b : Bool} {fd : FuncData} (hB : IniB f) (I : InitF P K C fI f b fd) : Binds K fd [("self" : Str), f] [] := by
  refine .all fun us hl => ?_
  obtain ⟨a1, q1, a2, q2, hp⟩ := I.par
  have hd := I.dfl
  obtain ⟨n1, n2, n3, n4, n5, n6, n7, n8, n9, n10, n11, n12, n13, n14, n15⟩ := fd
  simp only at hp hd
  subst hp hd
  match us, hl with
  | [x, y], _ => exact hB _ _ _ _ _ _ _ _ _ _ _ _ _ _ _ _ _ _ _
/-- all of it -/
structure NN (P : Program) (K : PySem.W.Frag) (mg : Str → Option Value) (w f : Str) (b : Bool := false) : Prop where
  ini : ∃ fI fd, InitF P K (He.ga K w) fI f b fd ∧ PySem.W.findIn K (.ref (He.ga K w)) "__init__" = some (some (.ref fI)) ∧ PySem.W.typeIn K (.ref fI) = some (.type "function")
  sup : SupC P K mg (He.ga K w) f b
  mg : mg w = some (.ref (He.ga K w))
  bnd : IniB f
section
variable {X : Cx} {W : WX} {e : Expr} {p p1 pos pos' : Pos} {ρ ρ1 : En} {x : PyData} {D : DE} {k : Nat} {w f : Str} {b : Bool}
theorem sd_raiseN (hc : X.calm = true) (tk : L2N.Takes X W) (nn : NN X.prog X.K X.mg w f b) (hb : b = true → ∃ i : Int, x = .int i ∧ Sml i := by intro h; cases h) (hr : Room k X.A) (he : PD X e ρ x ρ1) (h : D.ex (.ref (He.ga X.K w)) [(f, x)] ρ1) (hk : 2 ≤ k := by decide) (hg : Gl X w := by rfl)
    (hs : starEach [e] X.env = (false, eval e X.env) :: starEach [] X.env := by rfl) (hdb : (w == ("__debug__" : Str)) = false := by decide) : SD X W (.Raise (some (.Call (.Name w p) [e] [] pos')) none pos) ρ D := by
  obtain ⟨fI, fd, I, iC, tI⟩ := nn.ini
  refine PS_imp (L2N.ps_raise hc tk (pmk_own nn.sup.oex iC tI (init_fn (CX := CX0) I nn.sup) (hr.mono hk) (init_binds nn.bnd I) (fun _ _ _ _ _ _ _ h => h.elim) hg nn.mg (pa_cons he pa_nil hs) hdb hs rfl)) fun E σ H ⟨C, F, se, cv⟩ => ⟨C, F, se, fun v F1 H1 x1 e1 r1 => ?_⟩
  refine ⟨by simp, fun a ha => ⟨a, v, rfl, fun q => by obtain ⟨i, rfl, hi⟩ := hb q; exact ⟨i, rp_int r1, hi⟩, upd_same, fun d hd hda => ⟨rfl, d, [(f, v)], upd_same, ?_, ?_, ?_⟩⟩⟩
  · rw [upd_ne hda, upd_same]
  · rw [upd_ne hda] at hd; exact hd
  · have hd' : H1 d = none := by rw [upd_ne hda] at hd; exact hd
    have eq : upd (del (upd (upd (upd H1 a (exo a (He.ga X.K w) none)) d (exd d [(f, v)])) a (exo a (He.ga X.K w) (some d))) a) d (.xd [(f, v)]) = upd H1 d (.xd [(f, v)]) := by
      funext b
      by_cases hb : b = d
      · rw [hb, upd_same, upd_same]
      · rw [upd_ne hb, upd_ne hb]
        by_cases hba : b = a
        · rw [hba, del_same, ha]
        · rw [del_ne hba, upd_ne hba, upd_ne hb, upd_ne hba]
    rw [eq]
    have g : Gr F1 H1 F1 (upd H1 d (.xd [(f, v)])) := .side e1.fr.ext hd'
    exact cv.ex _ [(f, x)] ρ1 (some d) F1 _ σ h (e1.grow g) ⟨by simp, _, upd_same, rfl, .cons r1 .nil⟩
end
end G

/-! GTry2: several except clauses that bind the same name; a caught exception's field. -/
namespace G
open PySem PySem.Spec PyProof.Rows L2 L2N
abbrev DEnd (i : Nat) (D : Ends) : Ends := { nx := fun σ' H' => D.nx (σ'.set i none) H', rt := D.rt, bk := fun σ' H' => D.bk (σ'.set i none) H', ct := fun σ' H' => D.ct (σ'.set i none) H' }
/-- what the clauses wish, one behind the other -/
def wManyA (K : PySem.W.Frag) (i : Nat) (Wout : WX) (D : Ends) : List (Value × (Addr → Value → Option Addr → TS)) → WX
  | [] => Wout
  | (c, ts) :: r => fun cls d σ H => ∃ b, PySem.W.exmOne K cls c = some b ∧ (b = true → ∀ a, H a = none → ts a cls d (DEnd i D) (σ.set i (some (.ref a))) H) ∧ (b = false → wManyA K i Wout D r cls d σ H)
inductive HdsA (X : Cx) (n : Str) : List ExceptHandler → List (Value × (Addr → Value → Option Addr → TS)) → Prop
  | nil : HdsA X n [] []
  | cons {x : Str} {c : Value} {ts : Addr → Value → Option Addr → TS} {b₀ : Stmt} {suite : List Stmt} {np pos' : Pos} {hds : List ExceptHandler} {l : List (Value × (Addr → Value → Option Addr → TS))} (hc : Names X x c)
      (hsu : ∀ (a : Addr) (oe : Obj) (cls : Value) (d : Option Addr) (pn : List (Addr × Obj)), L2N.Zn cls d oe → (∃ vs, oe.data = .fields vs) → PSs (X.suite a ((a, oe) :: pn)) (b₀ :: suite) (ts a cls d)) (r : HdsA X n hds l) :
      HdsA X n (.ExceptHandler (some (.Name x np)) (some n) (b₀ :: suite) pos' :: hds) ((c, ts) :: l)
section
variable {X : Cx} {n : Str} {i : Nat} {body : List Stmt} {h₀ : ExceptHandler} {hds : List ExceptHandler} {l : List (Value × (Addr → Value → Option Addr → TS))} {pos : Pos} {tb : WX → TS} {Wout : WX}
theorem ps_try_asM (hs : X.stack = X.env :: X.outer) (hf : X.env.frame = some X.env.locals) (hN : X.N.Nodup) (hi : X.N[i]? = some n) (hln : X.env.kindOf n = some .local) (tk : L2N.Takes X Wout)
    (hb : ∀ (W : WX) (pn : List (Addr × Obj)) (xe : Value → Shared → Prop), L2N.Takes (X.tr pn xe) W → PassesOwn (model X.prog X.w) X.A X.env xe → PSs (X.tr pn xe) body (tb W))
    (hh : HdsA X n (h₀ :: hds) l) : PS X (.Try body (h₀ :: hds) [] [] pos) (fun D σ H => tb (wManyA X.K i Wout D l) D σ H) := by
  refine ⟨fun pins s σ H D I h => ?_⟩
  have ok := I.ok
  have hfr : X.A.frames = some (X.env :: X.outer) := by rw [ok.frames, hs]
  have hloc : Loc X.env.scope n := .inl hln
  refine wpAny_Try_except ?_
  refine wpAny_mono ((hb (wManyA X.K i Wout D l) (X.pn ++ pins) (fun e s₁ => wpAny (model X.prog X.w) X.A (noteFrame e X.env) (fun _ s₂ => wpAny (model X.prog X.w) X.A (setFlight e none) (fun _ s₃ =>
    wpAny (model X.prog X.w) X.A (handleBy e X.env (h₀ :: hds)) (SP X pins D) X.xe s₃) X.xe s₂) X.xe s₁) (fun u s' xx => ?_) PassesOwn.looking).run [] s σ H D (I.toTry _) h) (fun f s1 hsp => ?_) (fun e s1 he => he)
  · obtain ⟨a, B, sI, pins', σ', H', cls, d, rfl, J', nb, up, sky, na, os, ag, w⟩ := xx
    have J : L2.Inv X pins σ' H' sI := J'.ofTry ok
    have sky' : Sky B (X.env :: X.outer) a (L2N.Zn cls d) X.env.locals s'.heap := by rw [← hs]; exact sky
    show wpAny (model X.prog X.w) X.A (noteFrame (.ref a) X.env) _ _ _
    refine L2N.Sky.land L2N.Zn.steady hfr hf sky' fun h3 fl3 up3 => ?_
    have J3 : L2.Inv X pins σ' H' { s' with heap := h3 } := J.landed nb fl3.1 (up.trans up3) os ag
    obtain ⟨oe3, vs3, he3, hz3, hd3⟩ := fl3.there
    have notFr : ∀ {h : Heap} {o : Obj} {vs : Array Value}, h.FunFrames B (X.env :: X.outer) → h.get? a = some o → o.data = .fields vs → a ∉ frs (X.env :: X.outer) := fun {h o vs} ff e dd hm => by
      obtain ⟨_, o', e', hnf⟩ := ff.mem hm
      rw [e] at e'; cases e'
      exact hnf _ dd
    have nfr := notFr fl3.2.2.1 he3 hd3
    have nL : a ≠ X.env.locals := fun z => nfr (List.mem_filterMap.mpr ⟨X.env, List.mem_cons_self, by rw [hf, z]⟩)
    have nF : a ∉ X.fs := fun hm => by
      obtain ⟨e, he, q⟩ := List.mem_filterMap.mp hm
      exact nfr (List.mem_filterMap.mpr ⟨e, List.mem_cons_of_mem _ he, q⟩)
    have S3 := J3.suite he3 hd3 na nL nF
    have go : ∀ {hds' : List ExceptHandler} {l' : List (Value × (Addr → Value → Option Addr → TS))}, HdsA X n hds' l' → wManyA X.K i Wout D l' cls d σ' H' →
        wpAny (model X.prog X.w) X.A (handleBy (.ref a) X.env hds') (SP X pins D) X.xe { s' with heap := h3 } := by
      intro hds' l' hk
      induction hk with
      | nil =>
        intro w
        refine wpAny_handleBy_nil ?_
        obtain ⟨k1, k2, k3, oe, vs, T, oT, ts', he, hz, hd, h1, hr⟩ := id fl3
        unfold PySem.passOn
        refine wpAny_bind (wpAny_field he hd h1 ?_)
        rw [if_neg (show ¬ ((Value.ref T == Value.none) = true) from by simp)]
        have fin : wpAny (model X.prog X.w) X.A (setFlight (.ref a) X.env.frame) (fun _ s4 => wpAny (model X.prog X.w) X.A (throw (.ref a) : Sem Flow) (SP X pins D) X.xe s4) X.xe { s' with heap := h3 } := by
          rw [hf]
          refine HandSPX.setFlight_upZ fl3 fun h4 hh4 up4 => wpAny_throw (tk _ _ ?_)
          exact ⟨a, B, sI, pins, σ', H', cls, d, rfl, J, nb, (up.trans up3).trans up4, .inr (.inr (by rw [hs]; exact hh4)), na, os, ag, w⟩
        first
          | exact wpAny_bind (wpAny_pure (wpAny_bind fin))
          | exact wpAny_bind fin
      | @cons x c ts b₀ suite np pos' hds2 l2 hc hsu r ih =>
        intro w
        obtain ⟨b, hb1, hyes, hno⟩ := w
        refine wpAny_handleBy_cons (codeAny_handlers_test ?_) (by intro q; cases q)
        have LT : PySem.W.Looks (model X.prog X.w) h3 (typeOf (.ref a)) cls := fun A Q E s k q => wpAny_typeOf_ref (k _ _ he3) (by rw [hz3.1]; exact q)
        have LM := PySem.W.exm_one (M := model X.prog X.w) (J3.kIn) LT hb1
        have test : ∀ {Q : Value → Shared → Prop} {E : Value → Shared → Prop}, Q c { s' with heap := h3 } → wpAny (model X.prog X.w) (X.A.mark (some (.ref a))) (eval (.Name x np) X.env) Q E { s' with heap := h3 } := fun {Q E} q => by
          obtain ⟨hg, hdbg, hm | ⟨hm, hv, hnn⟩⟩ := hc
          · exact ld_glob (X := X.suite a ((a, oe3) :: (X.pn ++ pins))) S3 hg hm q hdbg
          · exact ld_blt (X := X.suite a ((a, oe3) :: (X.pn ++ pins))) S3 hg hm hv q hnn hdbg
        refine test (LM.here ?_)
        cases b with
        | true =>
          refine codeAny_handlers_suite_as ?_
          refine HandSPX.lands_againZ fl3 fun h4 fl4 up4 => ?_
          have J4 : L2.Inv X pins σ' H' { s' with heap := h4 } := J.landed nb fl4.1 ((up.trans up3).trans up4) os ag
          obtain ⟨oe4, vs4, he4, hz4, hd4⟩ := fl4.there
          have S4 := J4.suite he4 hd4 na nL nF
          refine store_ok (X := X.suite a ((a, oe4) :: (X.pn ++ pins))) (v := .ref a) S4 hN hi hloc rfl (fun s5 S5 => ?_) (.inr hln)
          refine wpAny_mono ((hsu a oe4 cls d (X.pn ++ pins) hz4 ⟨_, hd4⟩).run [] s5 _ H' _ S5 (hyes rfl a na)) (fun f s6 hsp => ?_) (fun _ _ z => False.elim z)
          have end_ : ∀ {σ6 : L2.St} {H6 : Hp} {Q : Shared → Prop}, L2.Inv (X.suite a ((a, oe4) :: (X.pn ++ pins))) [] σ6 H6 s6 → (∀ s7, L2.Inv X pins (σ6.set i none) H6 s7 → Q s7) →
              wpAny (model X.prog X.w) X.A (do bindName X.env n .none; unbindBehindTheSuite X.env n pos') (fun _ s7 => Q s7) X.xe s6 := fun {σ6 H6 Q} S6 hq => gone_ok (S6.unsuite ok) hN hi hln hq
          cases f with
          | next =>
            obtain ⟨σ6, H6, S6, q6⟩ := hsp
            exact end_ S6 fun s7 J7 => ⟨_, _, J7, q6⟩
          | brk =>
            obtain ⟨σ6, H6, S6, q6⟩ := hsp
            exact end_ S6 fun s7 J7 => ⟨_, _, J7, q6⟩
          | cont =>
            obtain ⟨σ6, H6, S6, q6⟩ := hsp
            exact end_ S6 fun s7 J7 => ⟨_, _, J7, q6⟩
          | ret u =>
            obtain ⟨v6, σ6, H6, S6, r6, q6⟩ := hsp
            exact end_ S6 fun s7 J7 => ⟨_, _, _, J7, r6, q6⟩
        | false => exact ih (hno rfl)
    exact go hh w
  · cases f with
    | next =>
      obtain ⟨σ', H', J', q⟩ := hsp
      exact wpAny_execs_nil ⟨σ', H', J'.ofTry ok, q⟩
    | brk =>
      obtain ⟨σ', H', J', q⟩ := hsp
      exact ⟨σ', H', J'.ofTry ok, q⟩
    | cont =>
      obtain ⟨σ', H', J', q⟩ := hsp
      exact ⟨σ', H', J'.ofTry ok, q⟩
    | ret u =>
      obtain ⟨v, σ', H', J', r, q⟩ := hsp
      exact ⟨v, σ', H', J'.ofTry ok, r, q⟩
end
/-! ### the clause that reads the field -/
def tLate (i : Nat) (C : Addr) (f too yes no : Str) (a : Addr) (cls : Value) (d : Option Addr) : TS := fun E σ H => σ[i]? = some (some (.ref a)) ∧ cls = .ref C ∧ ∃ dd vs r, d = some dd ∧ H dd = some (.xd vs) ∧ vs.lookup f = some (.str r) ∧ E.rt (.str (if r = too then yes else no)) H
section
variable {X : Cx} {W : WX} {body suite : List Stmt} {b₀ : Stmt} {D : DE} {ρ : En} {n w1 w2 f too yes no : Str} {C1 : Addr} {c2 : Value} {np np2 p1 p2 p3 p4 p5 p6 p7 pos pos' pos2 pq : Pos} {j1 j2 j3 : _}
theorem late_suite (i : Nat) (xf : XfC X.K C1) (noF : PySem.W.findIn X.K (.ref C1) f = some none) (hi : X.N[i]? = some n) (hln : X.env.kindOf n = some .local) (hd : (n == ("__debug__" : Str)) = false) (hcd : (n == ("__classdict__" : Str)) = false)
    (a : Addr) (oe : Obj) (cls : Value) (d : Option Addr) (pn : List (Addr × Obj)) (hz : L2N.Zn cls d oe) (hv : ∃ vs, oe.data = .fields vs) (hb : attributeBase (.Name n p1) f X.env (eval (.Name n p1) X.env) = eval (.Name n p1) X.env := by rfl) :
    PSs (X.suite a ((a, oe) :: pn)) [.Return (some (.IfExp (.Compare (.Attribute (.Name n p1) f p2) [.Eq] [.Constant (.str too) j1 p3] p4) (.Constant (.str yes) j2 p5) (.Constant (.str no) j3 p6) p7)) pos] (tLate i C1 f too yes no a cls d) := by
  have h1 : PE (X.suite a ((a, oe) :: pn)) (.Name n p1) (tVar i) := pe_var (X := X.suite a ((a, oe) :: pn)) hi (Or.inl hln) hd hcd
  have h2 := pe_xf (X := X) (pos := p2) xf noF hz.zc hv h1 hb
  have h3 := pt_cmpR (X := X.suite a ((a, oe) :: pn)) (pos := p4) op_eq h2 (pe_str (x := too) (j := j1) (pos := p3)) (by rfl)
  refine PSs_imp (pss_one (ps_ret (pe_ifExp h3 (pe_str (x := yes) (j := j2) (pos := p5)) (pe_str (x := no) (j := j3) (pos := p6))))) fun E σ H ⟨e1, e2, dd, vs, r, e3, e4, e5, e6⟩ => ?_
  refine ⟨.ref a, e1, rfl, e2, dd, vs, .str r, e3, e4, e5, ?_⟩
  refine ⟨rfl, decide (r = too), by rw [dec_str, Bool.beq_eq_decide_eq], ?_⟩
  by_cases q : r = too
  · rw [if_pos q] at e6
    show (if decide (r = too) = true then E.rt (.str yes) H else E.rt (.str no) H)
    rw [if_pos (decide_eq_true q)]; exact e6
  · rw [if_neg q] at e6
    show (if decide (r = too) = true then E.rt (.str yes) H else E.rt (.str no) H)
    rw [if_neg (by simpa using q)]; exact e6
def tLate2 (i : Nat) (C : Addr) (f too yes no : Str) (a : Addr) (cls : Value) (d : Option Addr) : TS := fun E σ H => (∃ σ0 : L2.St, σ = σ0.set i (some (.ref a))) ∧ cls = .ref C ∧ ∃ dd vs r, d = some dd ∧ H dd = some (.xd vs) ∧ vs.lookup f = some (.str r) ∧ E.rt (.str (if r = too then yes else no)) H
theorem late_suite2 {st : List Stmt} {i : Nat} {a : Addr} {oe : Obj} {pn : List (Addr × Obj)} {cls : Value} {d : Option Addr} (hi : X.N[i]? = some n) (h : PSs (X.suite a ((a, oe) :: pn)) st (tLate i C1 f too yes no a cls d)) : PSs (X.suite a ((a, oe) :: pn)) st (tLate2 i C1 f too yes no a cls d) :=
  ⟨fun pins s σ H D I ⟨⟨σ0, e⟩, r⟩ => h.run pins s σ H D I ⟨by
    have hl : σ.length = X.N.length := I.len
    have hn : i < X.N.length := (List.getElem?_eq_some_iff.mp hi).1
    subst e
    rw [List.length_set] at hl
    rw [List.getElem?_set_self (by omega)], r⟩⟩
/-- try: body, except C1 as n: return yes if n.f == too else no, except C2 as n: suite -/
theorem sd_try_late (i : Nat) (M : Value → List (Str × PyData) → En → Prop) (hs : X.stack = X.env :: X.outer) (hf : X.env.frame = some X.env.locals) (hN : X.N.Nodup) (hc1 : Names X w1 (.ref C1)) (hc2 : Names X w2 c2) (tk : L2N.Takes X W)
    (xf : XfC X.K C1) (noF : PySem.W.findIn X.K (.ref C1) f = some none)
    (hb : ∀ (W : WX) (pn : List (Addr × Obj)) (xe : Value → Shared → Prop), L2N.Takes (X.tr pn xe) W → PassesOwn (model X.prog X.w) X.A X.env xe → BD (X.tr pn xe) W body ρ { D with ex := M })
    (hh : ∀ cls fs ρ', M cls fs ρ' → (PySem.W.exmOne X.K cls (.ref C1) = some true ∧ cls = .ref C1 ∧ ∃ r : Str, fs = [(f, .str r)] ∧ ∀ a, D.rt (.str (if r = too then yes else no)) (ρ'.set i (.v (.ref a)))) ∨
      (PySem.W.exmOne X.K cls (.ref C1) = some false ∧ ∃ b, PySem.W.exmOne X.K cls c2 = some b ∧ (b = true → fs = [] ∧ ∀ (a : Addr) (oe : Obj) (d : Option Addr) (pn : List (Addr × Obj)), L2N.Zn cls d oe → (∃ vs, oe.data = .fields vs) → d = none → BD (X.suite a ((a, oe) :: pn)) W0 (b₀ :: suite) (ρ'.set i (.v (.ref a))) (hdD D i)) ∧ (b = false → D.ex cls fs ρ')))
    (hi : X.N[i]? = some n := by rfl) (hln : X.env.kindOf n = some .local := by rfl) (hd : (n == ("__debug__" : Str)) = false := by decide) (hcd : (n == ("__classdict__" : Str)) = false := by decide)
    (hat : attributeBase (.Name n p1) f X.env (eval (.Name n p1) X.env) = eval (.Name n p1) X.env := by rfl) :
    SD X W (.Try body [.ExceptHandler (some (.Name w1 np)) (some n) [.Return (some (.IfExp (.Compare (.Attribute (.Name n p1) f p2) [.Eq] [.Constant (.str too) j1 p3] p4) (.Constant (.str yes) j2 p5) (.Constant (.str no) j3 p6) p7)) pos] pos', .ExceptHandler (some (.Name w2 np2)) (some n) (b₀ :: suite) pos2] [] [] pq) ρ D := by
  have hsu : ∀ (a : Addr) (oe : Obj) (cls : Value) (d : Option Addr) (pn : List (Addr × Obj)), L2N.Zn cls d oe → (∃ vs, oe.data = .fields vs) → PSs (X.suite a ((a, oe) :: pn)) (b₀ :: suite)
      (fun E σ H => ∃ q : { q : List (Str × PyData) × En // M cls q.1 q.2 ∧ PySem.W.exmOne X.K cls (.ref C1) = some false ∧ PySem.W.exmOne X.K cls c2 = some true ∧ d = none }, tD X.K W0 (q.1.2.set i (.v (.ref a))) (hdD D i) E σ H) := fun a oe cls d pn hz hv => PSs_ex fun q => by
    rcases hh cls q.1.1 q.1.2 q.2.1 with ⟨h0, _⟩ | ⟨_, b, h1, h2, _⟩
    · rw [q.2.2.1] at h0; cases h0
    · rw [q.2.2.2.1] at h1
      cases h1
      exact (h2 rfl).2 a oe d pn hz hv q.2.2.2.2
  refine PS_imp (ps_try_asM hs hf hN hi hln tk (tb := fun W => tD X.K W ρ { D with ex := M }) (fun W pn xe t p => hb W pn xe t p) (.cons hc1 (fun a oe cls d pn hz hv => late_suite2 hi (late_suite i xf noF hi hln hd hcd a oe cls d pn hz hv hat)) (.cons hc2 hsu .nil))) fun E σ H ⟨C, F, se, cv⟩ => ⟨C, F, se, ?_⟩
  refine ⟨cv.nx, cv.rt, fun cls fs ρ' d F' H' σ' m s r => ?_, cv.bk, cv.ct, cv.rn, cv.rq, cv.rz⟩
  rcases hh cls fs ρ' m with ⟨h1, h2, rr, rfl, h3⟩ | ⟨h1, b, h2, h3, h4⟩
  · refine ⟨true, h1, fun _ a na => ?_, fun z => nomatch z⟩
    cases d with
    | none => cases (show [(f, PyData.str rr)] = [] from r)
    | some dd =>
      obtain ⟨_, vs, e1, e2, e3⟩ := r
      have : vs = [(f, V.str rr)] := by
        match vs, e2, e3 with
        | [(g, v)], e2, e3 =>
          cases e2
          cases e3 with
          | cons r1 _ => rw [show v = V.str rr from rp_str r1]
      subst this
      have s2 := s.setV i (.ref a)
      refine ⟨?_, h2, dd, _, rr, rfl, e1, ?_, cv.rt _ _ _ F' H' _ (h3 a) s2 (.str _)⟩
      · exact ⟨σ', rfl⟩
      · show (match (f == f) with | true => some (V.str rr) | false => none) = _
        rw [beq_self_eq_true]
  · refine ⟨false, h1, fun z => (nomatch z), fun _ => ⟨b, h2, fun hb1 a na => ?_, fun hb0 => cv.ex cls fs ρ' d F' H' σ' (h4 hb0) s r⟩⟩
    subst hb1
    obtain ⟨e0, _⟩ := h3 rfl
    subst e0
    cases d with
    | some dd => exact absurd rfl r.1
    | none =>
      refine ⟨⟨([], ρ'), m, h1, h2, rfl⟩, C, F', s.setV i _, ?_⟩
      exact ⟨fun r F2 H2 σ2 q s2 => cv.nx _ F2 H2 _ q (s2.unset i), cv.rt, fun _ _ _ _ _ _ _ z => z.elim, fun r F2 H2 σ2 q s2 => cv.bk _ F2 H2 _ q (s2.unset i), fun r F2 H2 σ2 q s2 => cv.ct _ F2 H2 _ q (s2.unset i), cv.rn, cv.rq, cv.rz⟩
end
end G

/-! GIni: the facts of an own __init__, looked up. -/
namespace G
open PySem PySem.Spec PyProof.Rows L2
def argB (f : Str) (b : Bool) : Expr → Bool
  | .Name c _ => decide (b = false) && decide (c = f)
  | .BinOp (.Constant (.str x) _ _) .Add (.Call (.Name g _) [.Name c _] [] _) _ => decide (b = true) && (decide (g = "str") && (decide (c = f) && decide (x.length ≤ 100)))
  | _ => false
theorem argB_ok {f : Str} {b : Bool} {e : Expr} (h : argB f b e = true) : ArgF f b e := by
  unfold argB at h
  split at h
  · simp only [Bool.and_eq_true, decide_eq_true_eq] at h
    obtain ⟨rfl, rfl⟩ := h
    exact .inl ⟨rfl, _, rfl⟩
  · simp only [Bool.and_eq_true, decide_eq_true_eq] at h
    obtain ⟨rfl, rfl, rfl, h⟩ := h
    exact .inr ⟨rfl, _, _, _, _, _, _, _, rfl, h⟩
  · cases h
def bodyB (f : Str) (k : Bool) : FuncBody → Bool
  | .stmts [.Expr (.Call (.Attribute (.Call (.Name a _) [] [] _) b p2) [c] [] p4) _, .Assign [.Attribute (.Name d _) e _] (.Name g _) _] => decide (a = "super") && (decide (b = "__init__") && (argB f k c && (decide (d = "self") && (decide (e = f) && (decide (g = f) && (p2.endLine == p4.line))))))
  | _ => false
theorem bodyB_ok {f : Str} {k : Bool} {b : FuncBody} (h : bodyB f k b = true) : ∃ e3 p0 p1 p2 p4 p5 p6 p7 p8 p9, b = .stmts (initB f e3 p0 p1 p2 p4 p5 p6 p7 p8 p9) ∧ ArgF f k e3 ∧ (p2.endLine == p4.line) = true := by
  unfold bodyB at h
  split at h
  · simp only [Bool.and_eq_true, decide_eq_true_eq] at h
    obtain ⟨rfl, rfl, ha, rfl, rfl, rfl, h⟩ := h
    exact ⟨_, _, _, _, _, _, _, _, _, _, rfl, argB_ok ha, h⟩
  · cases h
def parB (f : Str) : Arguments → Bool
  | ⟨[], [⟨a, _, _⟩, ⟨b, _, _⟩], none, [], [], none, []⟩ => decide (a = "self") && decide (b = f)
  | _ => false
theorem parB_ok {f : Str} {p : Arguments} (h : parB f p = true) : ∃ a1 q1 a2 q2, p = ⟨[], [⟨"self", a1, q1⟩, ⟨f, a2, q2⟩], none, [], [], none, []⟩ := by
  unfold parB at h
  split at h
  · simp only [Bool.and_eq_true, decide_eq_true_eq] at h
    obtain ⟨rfl, rfl⟩ := h
    exact ⟨_, _, _, _, rfl⟩
  · cases h
def noneB : Value → Bool
  | .none => true
  | _ => false
def codeB (K : PySem.W.Frag) (file : Str) : Value → Bool
  | .ref cc => (match K.lookup cc with
    | some ⟨_, _, .fields vs, _⟩ => (match (vs[2]? : Option Value) with
      | some (.str x _) => decide (x = file)
      | _ => false)
    | _ => false)
  | _ => false
theorem codeB_ok {K : PySem.W.Frag} {file : Str} {v : Value} (h : codeB K file v = true) : ∃ cc oc od osl vs tf, v = .ref cc ∧ K.lookup cc = some ⟨oc, od, .fields vs, osl⟩ ∧ vs[2]? = some (.str file tf) := by
  unfold codeB at h
  split at h
  · split at h
    · rename_i e
      split at h
      · rename_i e2
        exact ⟨_, _, _, _, _, _, rfl, e, by rw [e2, of_decide_eq_true h]⟩
      · cases h
    · cases h
  · cases h
def cloB (K : PySem.W.Frag) (C : Addr) : List (Str × Addr) → Bool
  | [(x, c)] => decide (x = "__class__") && (match K.lookup c with
    | some ⟨_, _, .cell (some (.ref D)), _⟩ => decide (D = C)
    | _ => false)
  | _ => false
theorem cloB_ok {K : PySem.W.Frag} {C : Addr} {l : List (Str × Addr)} (h : cloB K C l = true) : ∃ c oc od osl, l = [(("__class__" : Str), c)] ∧ K.lookup c = some ⟨oc, od, .cell (some (.ref C)), osl⟩ := by
  unfold cloB at h
  split at h
  · obtain ⟨h1, h2⟩ := Bool.and_eq_true_iff.mp h
    split at h2
    · rename_i e
      rw [of_decide_eq_true h2] at e
      exact ⟨_, _, _, _, by rw [of_decide_eq_true h1], e⟩
    · cases h2
  · cases h
def scB (f : Str) (b : Bool) (sc : Scope) : Bool := (!b || decide (sc.names.lookup ("str" : Str) = some .globalImplicit)) && (decide (sc.kind = .function) && (decide (sc.isCoroutine = false) && (decide (sc.isGenerator = false) && (decide (sc.names.lookup ("self" : Str) = some .local) && (decide (sc.names.lookup f = some .local) && (decide (sc.names.lookup ("super" : Str) = some .globalImplicit) &&
  (decide (sc.names.lookup ("__class__" : Str) = some .free) && sc.names.all fun y => decide (y.2 ≠ .cell) && (decide (y.2 ≠ .free) || decide (y.1 = ("__class__" : Str))))))))))
def fnB (K : PySem.W.Frag) (C : Addr) (f file : Str) (b : Bool) (fd : FuncData) : Bool := bodyB f b fd.body && (parB f fd.params && (noneB fd.defaults && (codeB K file fd.code && (PySem.W.codeIn K fd.code fd.qualname && (cloB K C fd.closure && (decide (fd.globals = mainGlobals) && (decide (fd.builtins = builtinsNs) && scB f b fd.scope)))))))
def iniB (K : PySem.W.Frag) (C : Addr) (f file : Str) (b : Bool) : Bool := match PySem.W.findIn K (.ref C) "__init__" with
  | some (some (.ref fI)) => decide (PySem.W.typeIn K (.ref fI) = some (.type "function")) && (match K.lookup fI with
    | some ⟨_, _, .func fd, _⟩ => fnB K C f file b fd
    | _ => false)
  | _ => false
theorem iniB_ok {P : Program} {K : PySem.W.Frag} {C : Addr} {f file : Str} {b : Bool} (h : iniB K C f file b = true) (hP : (P.main.file == file) = true) (hf : f ≠ "self" ∧ f ≠ "__class__" ∧ (f == ("__debug__" : Str)) = false ∧ (f == ("__classdict__" : Str)) = false) :
    ∃ fI fd, InitF P K C fI f b fd ∧ PySem.W.findIn K (.ref C) "__init__" = some (some (.ref fI)) ∧ PySem.W.typeIn K (.ref fI) = some (.type "function") := by
  unfold iniB at h
  split at h
  · rename_i fI e
    obtain ⟨h1, h2⟩ := Bool.and_eq_true_iff.mp h
    split at h2
    · rename_i oc od fd osl e2
      unfold fnB scB at h2
      simp only [Bool.and_eq_true, decide_eq_true_eq, List.all_eq_true, Bool.or_eq_true, Bool.not_eq_true'] at h2
      obtain ⟨b1, b2, b3, b4, b5, b6, b7, b8, b0, b9, b10, b11, b12, b13, b14, b15, b16⟩ := h2
      obtain ⟨cc, o1, o2, o3, vs, tf, c1, c2, c3⟩ := codeB_ok b4
      refine ⟨fI, fd, ⟨⟨_, _, _, e2⟩, bodyB_ok b1, fun z => b0.resolve_left (by rw [z]; simp), parB_ok b2, ?_, ⟨cc, o1, o2, o3, vs, file, tf, c1, c2, c3, hP⟩, b5, cloB_ok b6, b7, b8, b9, b10, b11, b12, b13, b14, b15, fun y hy => (b16 y hy).1, fun y hy q => ?_, hf⟩, e, of_decide_eq_true h1⟩
      · unfold noneB at b3
        split at b3
        · assumption
        · cases b3
      · rcases (b16 y hy).2 with z | z
        · exact absurd q z
        · exact z
    · cases h2
  · cases h
def oexB (K : PySem.W.Frag) (C : Addr) : Bool := match K.lookup C with
  | some ⟨.type "type", _, .cls cd, sl⟩ => (match cd.mro, sl.toList with
    | .ref C' :: bm, [_, _, _, _, some (.builtin n), _] => decide (C' = C) && (decide (n = "ValueError.__new__") && (!cd.hasDel && (cd.hasDict && PySem.HandSPX.refsVE bm)))
    | _, _ => false)
  | _ => false
theorem oexB_ok {K : PySem.W.Frag} {C : Addr} (q : oexB K C = true) : ∃ nm q N bs bm sn sub ab col dd k0 k1 k2 k3 k5, K.lookup C = some (excClassObj nm q C N bs bm true sn sub ab col dd k0 k1 k2 k3 k5 "ValueError.__new__") ∧ PySem.HandSPX.refsVE bm = true := by
  unfold oexB at q
  split at q
  · rename_i dd cd sl ho
    split at q
    · rename_i C' bm k0 k1 k2 k3 n k5 hm hs
      simp only [Bool.and_eq_true, decide_eq_true_eq, Bool.not_eq_true'] at q
      obtain ⟨rfl, rfl, hdel, hd, ht⟩ := q
      obtain ⟨nm, bs, mro, ns, qn, hdd, sn, sub, ab, col, del⟩ := cd
      dsimp only at hm hdel hd
      subst hm hdel hd
      have hsl : sl = #[k0, k1, k2, k3, some (.builtin "ValueError.__new__"), k5] := by
        obtain ⟨l⟩ := sl
        simp only at hs
        rw [hs]
      subst hsl
      exact ⟨nm, qn, ns, bs, bm, sn, sub, ab, col, dd, k0, k1, k2, k3, k5, ho, ht⟩
    · cases q
  · cases q
def supB (K : PySem.W.Frag) (C : Addr) (f : Str) (b : Bool) : Bool := (!b || decide (PySem.W.nsIn K mainGlobals "str" = some none)) && (decide (PySem.W.ks_superIn K C C "__init__" = some (some (.builtin "ValueError.__init__"))) && (decide (PySem.W.nsIn K cStatics "thirdparty.any" = some none) && (decide (PySem.W.subIn K (.ref C) (.type "ValueError") = some true) &&
  (decide (PySem.W.findIn K (.ref C) f = some none) && (decide (PySem.W.subIn K (.ref C) (.ref C) = some true) && (decide (PySem.W.nsIn K mainGlobals "super" = some none) && (decide (PySem.W.findIn K (.ref C) "__setattr__" = some (some (.builtin "object.__setattr__"))) &&
  (decide (PySem.W.subIn K (.ref C) (.type "BaseException") = some true) && (decide (PySem.W.typeIn K (.ref C) = some (.type "type")) && PySem.W.keepIn K (.ref C))))))))))
/-- the whole of it -/
def nnB (K : PySem.W.Frag) (C : Addr) (f file : Str) (b : Bool := false) : Bool := iniB K C f file b && (oexB K C && supB K C f b)
theorem nnB_ok {P : Program} {K : PySem.W.Frag} {h : Heap} {mg : Str → Option Value} {w f file : Str} {b : Bool} (X : K.In h) (G : h.Ns mainGlobals mg) (h1 : nnB K (He.ga K w) f file b = true) (hm : mg w = some (.ref (He.ga K w))) (hP : (P.main.file == file) = true) (hT : (P.main.scope.names.lookup ("super" : Str)).isSome = false)
    (hB : IniB f) (hf : f ≠ "self" ∧ f ≠ "__class__" ∧ (f == ("__debug__" : Str)) = false ∧ (f == ("__classdict__" : Str)) = false) : NN P K mg w f b := by
  unfold nnB supB at h1
  simp only [Bool.and_eq_true, decide_eq_true_eq, Bool.or_eq_true, Bool.not_eq_true'] at h1
  obtain ⟨a1, a2, b0, b1, b2, b3, b4, b5, b6, b7, b8, b9, b10⟩ := h1
  exact ⟨iniB_ok a1 hP hf, ⟨fun z => PySem.W.mg_none_of X G (b0.resolve_left (by rw [z]; simp)), ⟨oexB_ok a2, b7, b8, b9, b10⟩, b1, b2, b3, b4, b5, PySem.W.mg_none_of X G b6, hT⟩, hm, hB⟩
/-! ### the head's hook, the statics seen too -/
def adS (g : Addr → Option Obj) (n : Nat) : List Addr := He.asD g n ++ [cStatics]
def obsS (n : Nat) (fa : List He.Fa) (fn : List He.DefD) (ex : PySem.W.Frag → Bool) (g : Addr → Option Obj) : He.AlX := (He.obsT fa fn [] (He.frT g (adS g n)), ex (He.frT g (adS g n)))
def hookS (n : Nat) (fa : List He.Fa) (fn : List He.DefD) (ex : PySem.W.Frag → Bool) : PySem.W.Hook where
  α := He.AlX
  obs := fun s => obsS n fa fn ex s.heap.get?
  val := fun w => He.valX fn [] w
  says := fun w h => ∃ K : PySem.W.Frag, K.In h ∧ He.SaysX fa fn [] [] ex w h K
  of := fun _ _ e => ⟨_, He.frT_in, ⟨congrArg (fun z : He.AlX => z.1) e, congrArg (fun z : He.AlX => z.2) e, fun p hp => absurd hp (by simp), fun p hp => absurd hp (by simp), fun p hp => absurd hp (by simp)⟩⟩
  keeps := fun _ _ _ ⟨K, hK, c⟩ k => ⟨K, PySem.W.Frag.In.keeps hK k, ⟨c.t, c.more, fun p hp => absurd hp (by simp), fun p hp => absurd hp (by simp), fun p hp => absurd hp (by simp)⟩⟩
theorem obsS_eq {n : Nat} {fa : List He.Fa} {fn : List He.DefD} {ex : PySem.W.Frag → Bool} {g : Addr → Option Obj} {s : Shared} (h : ∀ a, g a = s.heap.get? a) : obsS n fa fn ex g = (hookS n fa fn ex).obs s := by
  have e : g = s.heap.get? := funext h
  rw [e] <;> rfl
end G

/-! GDisp: {tuple(xs): c}, one pair, its key a tuple made there. -/
namespace G
open PySem PySem.Spec PyProof.Rows L2
/-- {k: v} with a tuple as key -/
def tDisp1 (tk tv : TE) : TE := fun σ H Q => ∀ p, H p = none → tk σ (upd H p (.dT [])) fun x H1 => tv σ H1 fun y H2 => H2 p = some (.dT []) ∧ ∃ (ks : List Key) (b : Addr), x = .ref b ∧ H2 b = some (.tup (ks.map kV)) ∧ Q (.ref p) (upd H2 p (.dT [(ks, y)]))
theorem pe_disp1 {X : Cx} {pos : Pos} {k v : Expr} {tk tv : TE} (hu : X.A.units + 3 < cLine) (hk : PE X k tk) (hv : PE X v tv) : PE X (.Dict [some k] [v] pos) (tDisp1 tk tv) := by
  refine ⟨fun pins s σ H Q I q => ?_⟩
  have hn := I.hok.fresh (Nat.le_refl s.heap.objs.size)
  have I1 := I.laid (a := s.heap.objs.size) (o := .dT []) (h' := s.heap.push { cls := .type "dict", data := .dict #[] }) (t' := s.toks) (fun _ _ q => Heap.get?_push_of_some _ q) (Nat.le_refl _) (dt_empty s.heap I.big)
  refine wpAny_Dict_any rfl rfl (by simp) (by simp) ?_
  refine pairTrees_cons_walk (thn (hk.run pins _ σ _ _ I1 (q _ hn)) fun u s1 ⟨x, H1, I2, rx, q1⟩ => thn (hv.run pins s1 σ H1 _ I2 q1) fun w2 s2 ⟨y, H2, I3, ry, q2⟩ => pairTrees_nil_walk ?_)
  obtain ⟨e, ks, b, rfl, eb, q3⟩ := q2
  obtain rfl : u = Value.ref b := rx
  obtain ⟨z, hd, xs, rel, dd⟩ := dt_of I3.hok e
  cases rel
  show wpAny _ _ (storeAll s.heap.objs.size [(Value.ref b, w2)]) _ _ _
  unfold storeAll
  rw [List.forIn_cons]
  refine wpAny_bind (wpAny_bind (wpAny_dictSet_heap (hsz := by simp) (by first | (show X.A.units < cLine; omega) | (show X.A.units + 2 < cLine; omega) | (show X.A.units + 3 < cLine; omega)) (key_of I3.hok eb) dd fun h' dd' hs => ?_))
  refine wpAny_pure ?_
  show wpAny _ _ (forIn [] PUnit.unit _) _ _ _
  rw [List.forIn_nil]
  refine wpAny_pure ?_
  obtain ⟨q, es, ep, hq, h2, h3, h4, _, h5⟩ := dd'
  have J := d_write (t' := s2.toks + (tupleKind (mixKind X.prog X.w)).draws ks) I3 (by rw [e]; exact True.intro) hs ⟨q, hq⟩ (ob := .dT [(ks, y)]) ⟨by show 1 ≤ sizeLine; decide, hd, _, (KT.put (kvs := []) .nil ks eb ry).keeps fun c ys ec => ?_, q, es, ep, hq, h2, h3, h4, h5⟩
  · exact ⟨.ref s.heap.objs.size, _, J, rfl, q3⟩
  · rw [upd_ne (ne_of ec e (fun z => nomatch z))]
    exact ec
theorem rpa_intsV {K : PySem.W.Frag} {F : Hp} : ∀ {ns : List Int} {vs : List V}, RpA K F vs (ns.map PyData.int) → vs = (ns.map fun i => (Sum.inl i : Key)).map kV
  | [], vs, r => by cases r; rfl
  | n :: ns, vs, r => by
    cases r with
    | cons r1 r2 => rw [rpa_intsV r2, rp_int r1]; rfl
theorem pn_dtup {X : Cx} {w : Str} {ρ : En} {ns : List Int} {c : Int} {p p1 p2 p3 pos : Pos} {j : _} (i : Nat) (hu : X.A.units + 65 < cLine) (hm : X.mg ("tuple" : Str) = none) (hi : ρ[i]? = some (.d (dL PyData.int ns))) (hg : Gl X "tuple" := by rfl)
    (hN : X.N[i]? = some w := by rfl) (hv : Vis X.env.scope w := by first | exact Or.inl rfl | exact Or.inr (Or.inl rfl) | exact Or.inr (Or.inr rfl)) (hd : (w == ("__debug__" : Str)) = false := by decide) (hcd : (w == ("__classdict__" : Str)) = false := by decide)
    (na : starEach [.Name w p1] X.env = (false, eval (.Name w p1) X.env) :: starEach [] X.env := by rfl) :
    PN X (.Dict [some (.Call (.Name "tuple" p) [.Name w p1] [] p2)] [.Constant (.int c) j p3] pos) ρ (.t [(ns.map fun i => (Sum.inl i : Key), PyData.int c)]) ρ :=
  PE_imp (pe_disp1 (by omega) (pe_tupleOf hg hm (pe_var hN hv hd hcd) na) pe_int) fun σ H Q ⟨C, F, se, q⟩ p hp => by
    obtain ⟨v, hv1, rv⟩ : ∃ v, σ[i]? = some (some v) ∧ Rp X.K F v (dL PyData.int ns) := se.get hi
    cases rv with
    | lst h1 h2 =>
      refine ⟨_, hv1, .inl ⟨_, _, rfl, (se.lay (o := .dT []) hp).1.fr.ext.l h1, fun t ht => ?_⟩⟩
      have htp : t ≠ p := fun z => by rw [z, upd_same] at ht; cases ht
      have ht2 : H t = none := by rw [upd_ne htp] at ht; exact ht
      rw [rpa_intsV h2]
      refine ⟨by rw [upd_ne (fun z => htp z.symm), upd_same], _, t, rfl, upd_same, ?_⟩
      have eq : upd (upd (upd H p (.dT [])) t (.tup ((ns.map fun i => (Sum.inl i : Key)).map kV))) p (.dT [(ns.map fun i => (Sum.inl i : Key), V.int c)]) = upd (upd H t (.tup ((ns.map fun i => (Sum.inl i : Key)).map kV))) p (.dT [(ns.map fun i => (Sum.inl i : Key), V.int c)]) := by
        funext b
        by_cases h1 : b = p
        · rw [h1, upd_same, upd_same]
        · rw [upd_ne h1, upd_ne h1]
          by_cases h2 : b = t
          · rw [h2, upd_same, upd_same]
          · rw [upd_ne h2, upd_ne h2, upd_ne h1]
      rw [eq]
      have s1 := se.grow (.side (p := t) (o := .tup ((ns.map fun i => (Sum.inl i : Key)).map kV)) se.fr.ext ht2)
      obtain ⟨a, b, c', d⟩ := s1.lay (p := p) (o := .dT [(ns.map fun i => (Sum.inl i : Key), V.int c)]) (by rw [upd_ne (fun z => htp z.symm)]; exact hp)
      exact q p F _ (.refl _) a b c' d ⟨_, upd_same, rfl, .cons (.int c) .nil⟩
/-- len of a dict of either kind, frozen or not -/
def rLenF : List V → Hp → VK → Prop := fun xs H Q => ∃ p n, xs = [.ref p] ∧ ((∃ kvs : List (Key × V), Rd H p (.dK kvs) ∧ n = kvs.length) ∨ ∃ kvs : List (List Key × V), Rd H p (.dT kvs) ∧ n = kvs.length) ∧ Q (.int ((n : Nat) : Int)) H
theorem call_lenF {X : Cx} : CallR X (.builtin "len") rLenF := by
  intro pins s σ H xs us Q I r h
  obtain ⟨p, n, rfl, hp, q⟩ := h
  obtain ⟨u, rfl, rx⟩ := vals1 r
  obtain rfl : u = .ref p := rx
  rcases hp with ⟨kvs, hp, rfl⟩ | ⟨kvs, hp, rfl⟩
  · exact d_len I hp fun t s' I' => ⟨.int kvs.length, H, I', ⟨t, rfl⟩, q⟩
  · obtain ⟨z, hd, ys, rel, dd⟩ := dt_rd I.hok hp
    have hl : kvs.length = ys.length := Paired.length rel
    refine call_len_dictH hd dd (by rw [← hl]; rw [sizeLine_eq] at z; omega) ?_
    rw [← hl]
    exact ⟨.int ((kvs.length : Nat) : Int), H, I.tok _, ⟨_, rfl⟩, q⟩
theorem pd_lenK {X : Cx} {a : Expr} {p pos : Pos} {ρ ρ1 : En} {ds : List (PyData × PyData)} (hm : X.mg ("len" : Str) = none) (h : PD X a ρ (.dict ds) ρ1) (hg : Gl X "len" := by rfl) (he : starEach [a] X.env = (false, eval a X.env) :: starEach [] X.env := by rfl) : PD X (.Call (.Name "len" p) [a] [] pos) ρ (.int (ds.length : Int)) ρ1 :=
  pd_bi call_lenF (fun F H vs Q e r q => by
    obtain ⟨v, rfl, h⟩ := rpa_one r
    cases h with
    | @dK l o kvs ds2 h1 h2 =>
      have hl : kvs.length = ds2.length := by have := h2.length; rw [List.length_map] at this; exact this
      exact ⟨_, _, rfl, .inl ⟨kvs, .inr ⟨o, e _ _ h1⟩, rfl⟩, q _ F H (.refl e) (by rw [List.length_zip, List.length_map, ← hl, Nat.min_self]; exact .int _)⟩
    | @dT l o kvs ds2 h1 _ h2 =>
      have hl : kvs.length = ds2.length := by have := h2.length; rw [List.length_map] at this; exact this
      exact ⟨_, _, rfl, .inr ⟨kvs, .inr ⟨o, e _ _ h1⟩, rfl⟩, q _ F H (.refl e) (by rw [List.length_zip, List.length_map, ← hl, Nat.min_self]; exact .int _)⟩) (ad_one h he) hm rfl hg (by decide) (by decide) he
theorem pd_lenDT {X : Cx} {a : Expr} {p pos : Pos} {ρ ρ1 : En} {κ α : Type} {kt : κ → List Key} {f : α → PyData} {m : List (κ × α)} (hm : X.mg ("len" : Str) = none) (h : PD X a ρ (dDT kt f m) ρ1) (hg : Gl X "len" := by rfl) (he : starEach [a] X.env = (false, eval a X.env) :: starEach [] X.env := by rfl) : PD X (.Call (.Name "len" p) [a] [] pos) ρ (.int (m.length : Int)) ρ1 := by
  have q := pd_lenK (p := p) (pos := pos) hm h hg he
  rw [List.length_map, List.length_map] at q
  exact q
/-! ### tuples of one kind -/
section
variable {X : Cx} {a b e : Expr} {p p2 pos : Pos} {ρ ρ1 ρ2 ρ3 : En} {α : Type} [Inhabited α] {f : α → PyData} {ns ms : List α} {i : Int}
theorem pd_lenTL (hm : X.mg ("len" : Str) = none) (h : PD X a ρ (.tuple (ns.map f)) ρ1) (hg : Gl X "len" := by rfl) (he : starEach [a] X.env = (false, eval a X.env) :: starEach [] X.env := by rfl) : PD X (.Call (.Name "len" p) [a] [] pos) ρ (.int (ns.length : Int)) ρ1 := by
  have q := pd_lenT (p := p) (pos := pos) hm h hg he
  rw [List.length_map] at q
  exact q
theorem pd_ixTL (hi : -(ns.length : Int) ≤ i ∧ i < ns.length) (ha : PD X a ρ (.tuple (ns.map f)) ρ1) (hb : PD X b ρ1 (.int i) ρ2) (hs : PlainIx b := by intro _ _; rfl) : PD X (.Subscript a b pos) ρ (f (gI ns i)) ρ2 := pd_ixT (gI_at hi) ha hb hs
theorem pd_sliceTL {lo hi : Option Expr} {ol oh : Option Int} (h : PD X e ρ (.tuple (ns.map f)) ρ1) (hl : OD X lo ρ1 ol ρ2) (hh : OD X hi ρ2 oh ρ3) : PD X (.Subscript e (.Slice lo hi none p2) pos) ρ (.tuple ((cutG ns ol oh).map f)) ρ3 := by
  have q := pd_sliceT (pos := pos) (p2 := p2) h hl hh
  unfold cutD at q
  rw [List.length_map, ← List.map_drop, ← List.map_take] at q
  exact q
theorem pd_addTL (ha : PD X a ρ (.tuple (ns.map f)) ρ1) (hb : PD X b ρ1 (.tuple (ms.map f)) ρ2) (hl : ns.length + ms.length ≤ 100000) : PD X (.BinOp a .Add b pos) ρ (.tuple ((ns ++ ms).map f)) ρ2 := by
  have q := pd_addT (pos := pos) ha hb (by rw [List.length_map, List.length_map]; exact hl)
  rw [← List.map_append] at q
  exact q
end
theorem kds_int (xs : List Int) : kDs (kLT kI xs) = PyData.tuple (xs.map PyData.int) := by
  show PyData.tuple _ = _
  unfold kLT
  rw [List.map_map]; rfl
theorem td_dnotO {X : Cx} {a : Expr} {ρ ρ1 : En} {y : PyData} {pb : Option Addr} {ct : Ct} {ob : Option PyData} {o : Str} {p1 pos : Pos} (n : Nat) (hu : X.A.units + 65 < cLine) (ha : PD X a ρ y ρ1) (h1 : ρ1[n]? = some (.o pb ct)) (dk : DK ct y ob)
    (hN : X.N[n]? = some o := by rfl) (hv : Vis X.env.scope o := by first | exact Or.inl rfl | exact Or.inr (Or.inl rfl) | exact Or.inr (Or.inr rfl)) (hd : (o == ("__debug__" : Str)) = false := by decide) (hcd : (o == ("__classdict__" : Str)) = false := by decide)
    (hm : behindInMarks .NotIn (.Name o p1) = false := by rfl) : TD X (.Compare a [.NotIn] [.Name o p1] pos) ρ (!ob.isSome) ρ1 :=
  PT_imp (pt_cmp (pc_dnotin (by omega) ha (pe_var hN hv hd hcd)) hm) fun σ H Q ⟨C, F, se, q⟩ => ⟨C, F, se, fun v F1 H1 x1 e1 r1 => by
    obtain ⟨l, b1, _, b2, _⟩ := e1.getO h1
    obtain ⟨ov, g1, g2, g3⟩ := dk.get e1.fr.ext b2 r1
    exact ⟨.ref l, b1, l, ov, rfl, g1, _, rfl, by rw [iss_of g2 g3]; exact q F1 H1 x1 e1⟩⟩
end G

/-! GRel: a list comprehension over a list of which only a relation is known. -/
namespace G
open PySem PySem.Spec PyProof.Rows L2
section
variable {X : Cx} {e elt tg iter : Expr} {p pos pos' : Pos} {ρ ρ' ρ1 : En} {α β : Type} {scope : Scope} {own : List (Str × Nat)}
theorem pp_imp {R R' : PyData → En → Prop} (h : PP X e ρ R) (i : ∀ y r, R y r → R' y r) : PP X e ρ R' := PE_imp h fun σ H Q ⟨C, F, se, q⟩ => ⟨C, F, se, fun v F' H' x r hR => q v F' H' x r (i _ _ hR)⟩
theorem pi_rel {R : List PyData → En → Prop} (h : PP X e ρ (fun y r => ∃ xs, y = .list xs ∧ R xs r)) : PI X tg e (fun σ H Q => ∃ C F, SE X.K C F H σ ρ ∧ ∀ J F' H' xs r, R xs r → Ex F F' → SE X.K C F' H' σ r → Wk X.K F' σ J xs (fun z => SrcOk z none xs) none → Q J H') := PI_imp (pi_list (PE_imp h (t' := fun σ H Q => ∃ C F, SE X.K C F H σ ρ ∧ ∀ v F' H' xs r, R xs r → Ex F F' → SE X.K C F' H' σ r → SrcV X.K F' σ none v xs → Q v H') fun σ H Q ⟨C, F, se, q⟩ => ⟨C, F, se, fun v F' H' x r ⟨xs, hx, hR⟩ ex se' rp => by
    subst hx
    refine q v F' H' xs r hR ex se' ?_
    cases rp with
    | lst h1 h2 => exact ⟨_, _, rfl, h1, h2⟩⟩)) fun σ H R' ⟨C, F, se, q⟩ => by
  refine ⟨C, F, se, fun v F1 H1 xs r hR x1 e1 s1 => ?_⟩
  have ok' : SrcOk r none xs := trivial
  obtain ⟨a, vs, rfl, l1, r1⟩ := s1.look e1 ok'
  have key : ∀ C F2 H2 σ2 ρ2, Ex F1 F2 → SE X.K C F2 H2 σ2 ρ2 → ∃ us, SqL X.K H2 a us ∧ RpA X.K F2 us xs := fun C F2 H2 σ2 ρ2 x2 e2 => by
    have s2 : SrcV X.K F2 σ2 none (.ref a) xs := SrcV.mono (σ := σ) (src := none) x2 s1
    obtain ⟨b, us, eb, l2, r2⟩ := s2.look e2 trivial
    cases eb
    exact ⟨us, l2, r2⟩
  refine ⟨a, rfl, ⟨vs, l1⟩, q _ F1 H1 xs r hR x1 e1 ⟨fun i C F2 H2 σ2 ρ2 x2 e2 ok2 hs hi => ?_, fun C F2 H2 σ2 ρ2 x2 e2 ok2 hs => ?_, fun i C F2 H2 σ2 ρ2 v H3 x2 e2 ok2 hs hi y => ?_⟩⟩
  · obtain ⟨us, l2, r2⟩ := key C F2 H2 σ2 ρ2 x2 e2
    have hl := r2.length
    exact walk_list.goes i H2 (by rw [hl]; exact hi) l2
  · obtain ⟨us, l2, r2⟩ := key C F2 H2 σ2 ρ2 x2 e2
    rw [← r2.length]
    exact walk_list.stops H2 l2
  · obtain ⟨us, l2, r2⟩ := key C F2 H2 σ2 ρ2 x2 e2
    obtain ⟨rfl, h3⟩ := walk_list.yields i H2 v H3 (by rw [r2.length]; exact hi) l2 y
    obtain ⟨d, h4, h5⟩ := r2.getV h3
    exact ⟨d, F2, h4, .refl _, e2, h5⟩
/-- what such a comprehension needs, whatever is done with it -/
structure LcR (X : Cx) (elt tg iter : Expr) (scope : Scope) (ρ : En) (R : List PyData → En → Prop) : Prop where
  ex : ∃ (own : List (Str × Nat)) (wi : TI) (g : TG) (tt : TT) (te : TE), PI X tg iter wi ∧ BlkOk X.N X.env.scope scope own ∧ (∀ (s : Shared) (H : Hp) (C : Addr) (cl : List (Str × Addr)) (fp : List Addr), PG (X.blk s H scope (compEnvC scope cl C X.env) fp) tg g) ∧
    (∀ (s : Shared) (H : Hp) (C : Addr) (cl : List (Str × Addr)) (fp : List Addr), PTs (X.blk s H scope (compEnvC scope cl C X.env) fp) [] tt) ∧ (∀ (s : Shared) (H : Hp) (C : Addr) (cl : List (Str × Addr)) (fp : List Addr), PE (X.blk s H scope (compEnvC scope cl C X.env) fp) elt te) ∧
    ∀ σ H Q, (∃ C F, SE X.K C F H σ ρ ∧ ∀ p F' H' ys r, R ys r → Ex F F' → SE X.K C F' H' σ r → F' p = none → C.H0 p = none → (∀ j, ¬ Owns σ r j p) → Own1 X.K F' H' p (.l ys) → Q (.ref p) H') → tLc wi g tt te (own.map (·.2)) σ H Q
/-- [elt for tg in iter], the list known by a relation -/
theorem lcR (td : α → PyData) (fd : β → PyData) (val : α → β) (R : List α → En → Prop) (hb : BlkOk X.N X.env.scope scope own) (hi : PP X iter ρ (fun y r => ∃ xs, y = .list (xs.map td) ∧ R xs r)) (hlen : ∀ xs r, R xs r → xs.length < 100000)
    (hT : ∀ xs r, R xs r → ∀ a, a ∈ xs → ∃ ρt ρe, (∀ Y, IsBlk X scope Y → GV Y (own.map (·.2)) tg (td a) (wipeE r (own.map (·.2))) ρt) ∧ (∀ Y, IsBlk X scope Y → PE Y elt (tP X.K ρt (fd (val a)) ρe)) ∧ Le (wipeE r (own.map (·.2))) ρt ∧ Le (wipeE r (own.map (·.2))) ρe)
    : LcR X elt tg iter scope ρ (fun y r => ∃ xs r1, y = (xs.map val).map fd ∧ R xs r1 ∧ r = restE r1 r1 (own.map (·.2))) := by
  let ι := { p : List α × En // R p.1 p.2 }
  have cho : ∀ p : { p : ι × α // p.2 ∈ p.1.1.1 }, ∃ q : En × En, (∀ Y, IsBlk X scope Y → GV Y (own.map (·.2)) tg (td p.1.2) (wipeE p.1.1.1.2 (own.map (·.2))) q.1) ∧ (∀ Y, IsBlk X scope Y → PE Y elt (tP X.K q.1 (fd (val p.1.2)) q.2)) ∧ Le (wipeE p.1.1.1.2 (own.map (·.2))) q.1 ∧ Le (wipeE p.1.1.1.2 (own.map (·.2))) q.2 := fun p => by
    obtain ⟨ρt, ρe, h⟩ := hT p.1.1.1.1 p.1.1.1.2 p.1.1.2 p.1.2 p.2
    exact ⟨(ρt, ρe), h⟩
  let T : ι → Nat → Turn := fun p i => if h : i < p.1.1.length then
      let q := Classical.choose (cho ⟨(p, p.1.1[i]), List.getElem_mem h⟩)
      ⟨q.1, q.1, true, fd (val p.1.1[i]), q.2⟩ else ⟨[], [], false, .none, []⟩
  have hT' : ∀ (p : ι) i d, (p.1.1.map td)[i]? = some d → TurnOk X scope (own.map (·.2)) tg elt [] d p.1.2 p.1.2 (T p i) := fun p i d hd => by
    have hlt : i < p.1.1.length := by
      by_cases z : i < p.1.1.length
      · exact z
      · rw [List.getElem?_eq_none (by rw [List.length_map]; omega)] at hd; cases hd
    rw [List.getElem?_map, List.getElem?_eq_getElem hlt] at hd
    cases hd
    have sp := Classical.choose_spec (cho ⟨(p, p.1.1[i]), List.getElem_mem hlt⟩)
    have eT : T p i = ⟨(Classical.choose (cho ⟨(p, p.1.1[i]), List.getElem_mem hlt⟩)).1, (Classical.choose (cho ⟨(p, p.1.1[i]), List.getElem_mem hlt⟩)).1, true, fd (val p.1.1[i]), (Classical.choose (cho ⟨(p, p.1.1[i]), List.getElem_mem hlt⟩)).2⟩ := dif_pos hlt
    rw [eT]
    obtain ⟨s1, s3, s4, s5⟩ := sp
    refine ⟨s1, fun Y hY => tsd_nil_of hY, fun Y hY _ => s3 Y hY, ?_⟩
    dsimp only
    rw [if_pos rfl]
    exact s5
  have eo : ∀ (p : ι) n, n ≤ p.1.1.length → outs (T p) n = ((p.1.1.take n).map val).map fd := by
    intro p n
    induction n with
    | zero => intro _; simp [outs]
    | succ n ih =>
      intro hn
      have hlt : n < p.1.1.length := by omega
      have eT : T p n = ⟨(Classical.choose (cho ⟨(p, p.1.1[n]), List.getElem_mem hlt⟩)).1, (Classical.choose (cho ⟨(p, p.1.1[n]), List.getElem_mem hlt⟩)).1, true, fd (val p.1.1[n]), (Classical.choose (cho ⟨(p, p.1.1[n]), List.getElem_mem hlt⟩)).2⟩ := dif_pos hlt
      unfold outs
      rw [eT, ih (by omega), take_succ_of (List.getElem?_eq_getElem hlt)]
      dsimp only
      rw [if_pos rfl, List.map_append, List.map_append]; rfl
  have hg := fun (s : Shared) (H : Hp) (C : Addr) (cl : List (Str × Addr)) (fp : List Addr) => PG_ex (t := fun (p : { p : ι × Nat × PyData // (p.1.1.1.map td)[p.2.1]? = some p.2.2 }) => tGv X.K (own.map (·.2)) p.1.2.2 (wipeE p.1.1.1.2 (own.map (·.2))) (T p.1.1 p.1.2.1).ρt) fun p => (hT' p.1.1 p.1.2.1 p.1.2.2 p.2).tg _ ⟨s, H, C, cl, fp, rfl⟩
  have ht := fun (s : Shared) (H : Hp) (C : Addr) (cl : List (Str × Addr)) (fp : List Addr) => PTs_ex fun p : { p : ι × Nat × PyData // (p.1.1.1.map td)[p.2.1]? = some p.2.2 } => (hT' p.1.1 p.1.2.1 p.1.2.2 p.2).ts _ ⟨s, H, C, cl, fp, rfl⟩
  have he := fun (s : Shared) (H : Hp) (C : Addr) (cl : List (Str × Addr)) (fp : List Addr) => PE_ex fun p : { p : ι × Nat × PyData // (p.1.1.1.map td)[p.2.1]? = some p.2.2 ∧ (T p.1 p.2.1).k = true } => (hT' p.1.1 p.1.2.1 p.1.2.2 p.2.1).el _ ⟨s, H, C, cl, fp, rfl⟩ p.2.2
  have hi' := pi_rel (tg := tg) (R := fun ys r => ∃ xs, ys = xs.map td ∧ R xs r) (PE_imp hi fun σ H Q ⟨C, F, se, q⟩ => ⟨C, F, se, fun v F' H' x r ⟨xs, hx, hR⟩ => q v F' H' x r ⟨_, hx, xs, rfl, hR⟩⟩)
  refine ⟨own, _, _, _, _, hi', hb, hg, ht, he, fun σ H Q ⟨C, F, se, q⟩ => ⟨C, F, se, fun J F1 H1 ys r ⟨xs, hy, hR⟩ x1 e1 wk => ?_⟩⟩
  subst hy
  let p0 : ι := ⟨(xs, r), hR⟩
  exact lc_read (its := xs.map td) (I := fun _ => r) (T := T p0) (vs := own.map (·.2)) (ok := fun z => SrcOk z none (xs.map td)) (src := none)
    (g := fun v σ H Q => ∃ p : { p : ι × Nat × PyData // (p.1.1.1.map td)[p.2.1]? = some p.2.2 }, tGv X.K (own.map (·.2)) p.1.2.2 (wipeE p.1.1.1.2 (own.map (·.2))) (T p.1.1 p.1.2.1).ρt v σ H Q)
    (tt := fun σ H Q => ∃ p : { p : ι × Nat × PyData // (p.1.1.1.map td)[p.2.1]? = some p.2.2 }, tT X.K (T p.1.1 p.1.2.1).ρt (T p.1.1 p.1.2.1).k (T p.1.1 p.1.2.1).ρm σ H Q)
    (te := fun σ H Q => ∃ p : { p : ι × Nat × PyData // (p.1.1.1.map td)[p.2.1]? = some p.2.2 ∧ (T p.1 p.2.1).k = true }, tP X.K (T p.1.1 p.1.2.1).ρm (T p.1.1 p.1.2.1).y (T p.1.1 p.1.2.1).ρe σ H Q) e1 wk (wipeE_le _ _) (fun _ h => nomatch h) (fun _ _ => trivial) (by rw [List.length_map]; exact hlen xs r hR)
    (fun i d hd v σ H Q t => ⟨⟨(p0, i, d), hd⟩, t⟩) (fun i d hd σ H Q t => ⟨⟨(p0, i, d), hd⟩, t⟩) (fun i d hd k σ H Q t => ⟨⟨(p0, i, d), hd, k⟩, t⟩) (fun i d hd => (hT' p0 i d hd).nx) fun pp F2 H2 x2 e2 f2 c2 n2 o2 => by
      obtain ⟨vs, hp, rr⟩ := o2
      rw [List.length_map, eo p0 _ (Nat.le_refl _), List.take_length] at rr
      exact q pp F2 H2 _ _ ⟨xs, r, rfl, hR, rfl⟩ (x1.trans x2) e2 f2 c2 n2 ⟨vs, hp, rr⟩
theorem pp_lcR {R : List PyData → En → Prop} (h : LcR X elt tg iter scope ρ R) (hN : X.N.Nodup) (hc : X.calm = true := by rfl) (hs : ∀ x, foldedSetIterable iter X.env x = pure x := by intro _; rfl) : PP X (.ListComp elt [⟨tg, iter, [], 0⟩] scope pos) ρ (fun y r => ∃ ys, y = .list ys ∧ R ys r) := by
  obtain ⟨own, wi, g, tt, te, hi, hb, hg, ht, he, q⟩ := h.ex
  exact PE_imp (pe_lc hc hN hi hb hg ht he hs) fun σ H Q ⟨C, F, se, qq⟩ => q σ H _ ⟨C, F, se, fun p F' H' ys r hR x se' fp h0 no ⟨vs, hp, rr⟩ => qq (.ref p) (upd F' p (.lst vs)) H' _ r ⟨ys, rfl, hR⟩ (x.trans (.new fp)) (se'.frz fp hp h0 no) (.lst (SqL.of upd_same) (rr.mono (.new fp)))⟩
theorem sd_setLcR {R : List PyData → En → Prop} {D : DE} {W : WX} {w : Str} {spos : Pos} (i : Nat) (h : LcR X elt tg iter scope ρ R) (h2 : ∀ ys r, R ys r → D.nx (r.set i (.d (.list ys)))) (hN : X.N.Nodup) (hc : X.calm = true := by rfl) (hy : X.N[i]? = some w := by rfl) (hyl : X.env.scope.names.lookup w = some .local := by rfl)
    (hsw : swapsWith (.ListComp elt [⟨tg, iter, [], 0⟩] scope pos) (some (.Name w pos')) spos.line X.env = pure true := by rfl) (hs : ∀ x, foldedSetIterable iter X.env x = pure x := by intro _; rfl) : SD X W (.Assign [.Name w pos'] (.ListComp elt [⟨tg, iter, [], 0⟩] scope pos) spos) ρ D := by
  obtain ⟨own, wi, g, tt, te, hi, hb, hg, ht, he, q⟩ := h.ex
  refine PS_imp (ps_setLc hc hN hy hyl hsw hi hb hg ht he hs) fun E σ H ⟨C, F, se, cv⟩ => q σ H _ ⟨C, F, se, fun p F1 H1 ys r hR x1 e1 fp h0 no r1 => ?_⟩
  obtain ⟨vs, hp, rr⟩ := r1
  exact cv.nx _ (upd F1 p (.lst vs)) H1 _ (h2 ys r hR) ((e1.frz fp hp h0 no).setD (.lst (SqL.of upd_same) (rr.mono (.new fp))))
end
end G

/-! GLend: an own list is read as data while an int is computed, and is own again behind it. -/
namespace G
open PySem PySem.Spec PyProof.Rows L2
def unO : Sl → Sl
  | .o _ _ => .un
  | .v _ => .un
  | s => s
def lend (ρ : En) (i : Nat) (xs : List PyData) : En := (ρ.map unO).set i (.d (.list xs))
section
variable {X : Cx} {e : Expr} {ρ ρd ρ2 : En} {xs : List PyData} {n : Int}
theorem pd_lend (i : Nat) (h0 : ρ[i]? = some (.ol xs)) (h : PD X e ρd (.int n) ρ2) (hd : ρd = lend ρ i xs := by rfl) : PD X e ρ (.int n) ρ := PE_imp h fun σ H Q ⟨C, F, se, q⟩ => by
  obtain ⟨l, a1, _, ⟨vs, a3, a5⟩, a4⟩ := se.getO h0
  have fl := (se.own i l a4).1
  have r : Rp X.K (L2.upd F l (.lst vs)) (.ref l) (.list xs) := .lst (SqL.of upd_same) (a5.mono (.new fl))
  have xF : Ex F (L2.upd F l (.lst vs)) := .new fl
  have x0 : Ex (L2.upd F l (.lst vs)) H := fun a u hu => by
    by_cases z : a = l
    · rw [z, upd_same] at hu; rw [z, a3]; exact hu
    · rw [upd_ne z] at hu; exact se.fr.ext a u hu
  have hl : i < ρ.length := by
    by_cases z : i < ρ.length
    · exact z
    · rw [List.getElem?_eq_none (by omega)] at h0; cases h0
  have slot : ∀ j s, ρd[j]? = some s → s = .un ∨ (j = i ∧ s = .d (.list xs)) ∨ (∃ d, s = .d d ∧ ρ[j]? = some (.d d)) := fun j s hs => by
    rw [hd] at hs
    unfold lend at hs
    by_cases z : j = i
    · subst z
      rw [List.getElem?_set_self (by rw [List.length_map]; exact hl)] at hs
      cases hs
      exact .inr (.inl ⟨rfl, rfl⟩)
    · rw [List.getElem?_set_ne (fun w => z w.symm), List.getElem?_map] at hs
      cases hj : ρ[j]? with
      | none => rw [hj] at hs; cases hs
      | some t =>
        rw [hj] at hs
        cases hs
        cases t with
        | un => exact .inl rfl
        | d x => exact .inr (.inr ⟨x, rfl, rfl⟩)
        | o _ _ => exact .inl rfl
        | v _ => exact .inl rfl
  have no : ∀ j a, ¬ Owns σ ρd j a := fun j a ⟨h1, s, h2, h3⟩ => by
    rcases slot j s h2 with z | ⟨_, z⟩ | ⟨d, z, _⟩ <;> subst z <;> cases h3
  refine ⟨⟨L2.upd F l (.lst vs), H, []⟩, L2.upd F l (.lst vs), ⟨⟨x0, .refl _, fun a o h _ => h, fun a h => h, fun a _ z => .inl z, fun a h => by cases h⟩, ?_, fun j s hs => ?_, fun j k a hj => absurd hj (no j a), fun j a hj => absurd hj (no j a), fun j a c h1 h2 => absurd ⟨h2, _, h1, rfl⟩ (no j a)⟩, fun v F' H' x1 e1 r1 => ?_⟩
  · rw [se.len, hd]; unfold lend; rw [List.length_set, List.length_map]
  · rcases slot j s hs with z | ⟨rfl, z⟩ | ⟨d, z, z2⟩
    · subst z; trivial
    · subst z; rw [a1]; exact ⟨_, rfl, r⟩
    · subst z
      obtain ⟨w, w1, w2⟩ := se.ok j _ z2
      exact ⟨w, w1, w2.mono xF⟩
  · have g := Gr.ofFr e1.fr
    refine q v F H' (.refl _) (se.grow ⟨.refl _, g.h, se.fr.ext.trans g.h, fun _ _ h => .inl h⟩) ?_
    cases r1
    exact .int _
end
end G

/-! GGuard: tests known by a relation (a def that draws, asked in a condition; what is left to draw from is known by that it is a pool). -/
namespace G
open PySem PySem.Spec PyProof.Rows L2
def tTP (K : PySem.W.Frag) (ρ : En) (R : Bool → En → Prop) : TT := fun σ H Q => ∃ C F, SE K C F H σ ρ ∧ ∀ k F' H' ρ', R k ρ' → Ex F F' → SE K C F' H' σ ρ' → Q k H'
abbrev TP' (X : Cx) (e : Expr) (ρ : En) (R : Bool → En → Prop) : Prop := PT X e (tTP X.K ρ R)
abbrev WP' (X : Cx) (e : Expr) (ρ : En) (R : Bool → En → Prop) : Prop := PW X e (tTP X.K ρ R)
section
variable {X : Cx} {W : WX} {e a b c : Expr} {pos : Pos} {ρ ρ1 : En} {A B rest : List Stmt} {restE : List Expr} {D : DE} {R : Bool → En → Prop} {S : PyData → En → Prop}
theorem tp_val (h : PP X e ρ S) (hS : ∀ y r, S y r → ∃ k, y = .bool k ∧ R k r) (he : ∀ whole, isTrue e X.env whole = (do let v ← whole; standAt e.pos; holding [v] (truthy v)) := by intro _; rfl) : TP' X e ρ R :=
  PT_imp (pt_val h he) fun σ H Q ⟨C, F, se, q⟩ => ⟨C, F, se, fun v F1 H1 x ρ' hx x1 e1 r1 => by
    obtain ⟨k, rfl, hR⟩ := hS _ _ hx
    exact ⟨k, rp_bool r1, q k F1 H1 ρ' hR x1 e1⟩⟩
theorem tp_not (h : TP' X a ρ R) : TP' X (.UnaryOp .Not a pos) ρ (fun k r => R (!k) r) :=
  PT_imp (pt_not h) fun σ H Q ⟨C, F, se, q⟩ => ⟨C, F, se, fun k F1 H1 ρ' hR x1 e1 => q (!k) F1 H1 ρ' (by simpa using hR) x1 e1⟩
theorem wp_or1 (h : TP' X a ρ R) : WP' X (.BoolOp .Or [a] pos) ρ R := pw_or1 h
theorem wp_or_f (ha : TD X a ρ false ρ1) (hb : WP' X (.BoolOp .Or (b :: restE) pos) ρ1 R) : WP' X (.BoolOp .Or (a :: b :: restE) pos) ρ R :=
  PW_imp (pw_or ha hb) fun σ H Q ⟨C, F, se, q⟩ => ⟨C, F, se, fun F1 H1 x1 e1 => by
    refine iteF ?_
    exact ⟨C, F1, e1, fun k F2 H2 ρ' hR x2 e2 => q k F2 H2 ρ' hR (x1.trans x2) e2⟩⟩
theorem wp_and1 (h : TP' X a ρ R) : WP' X (.BoolOp .And [a] pos) ρ R := pw_and1 h
theorem wp_and_t (ha : TD X a ρ true ρ1) (hb : WP' X (.BoolOp .And (b :: restE) pos) ρ1 R) : WP' X (.BoolOp .And (a :: b :: restE) pos) ρ R :=
  PW_imp (pw_and ha hb) fun σ H Q ⟨C, F, se, q⟩ => ⟨C, F, se, fun F1 H1 x1 e1 => by
    refine iteT ?_
    exact ⟨C, F1, e1, fun k F2 H2 ρ' hR x2 e2 => q k F2 H2 ρ' hR (x1.trans x2) e2⟩⟩
theorem tp_w (h : WP' X e ρ R) : TP' X e ρ R := h.pt
theorem tp_imp {R' : Bool → En → Prop} (h : TP' X e ρ R) (i : ∀ k r, R k r → R' k r) : TP' X e ρ R' := PT_imp h fun σ H Q ⟨C, F, se, q⟩ => ⟨C, F, se, fun k F1 H1 ρ' hR x1 e1 => q k F1 H1 ρ' (i k ρ' hR) x1 e1⟩
/-- a guard that does not end it -/
theorem bd_guardP (hc : TP' X c ρ R) (hk : ∀ k r, R k r → k = false) (hb : ∀ r, R false r → BD X W rest r D) : BD X W (.If c A [] pos :: rest) ρ D := by
  have nv : PSs X A (fun _ _ _ => False) := ⟨fun _ _ _ _ _ _ h => h.elim⟩
  have h1 : SD X W (.If c A [] pos) ρ { D with nx := fun r => R false r } := PS_imp (ps_if hc nv (pss_nil (X := X))) fun E σ H ⟨C, F, se, cv⟩ => ⟨C, F, se, fun k F1 H1 ρ' hR x1 e1 => by
    have z := hk k ρ' hR
    subst z
    refine iteF ?_
    exact cv.nx _ F1 H1 _ hR e1⟩
  exact bd_cut (fun r => R false r) h1 hb
end
theorem nice_opt2 {α : Type} {d : Nat} {f : α → PyData} {o : Option α} (h : ∀ a, o = some a → Nice d (f a)) : Nice d (dO f o) := by
  cases o with
  | none => exact .non
  | some a => exact h a rfl
end G

/-! GWords: texts: split, int(text), repr of a truth value; the same data compared. -/
namespace G
open PySem PySem.Spec PyProof.Rows L2
theorem rpa_strs {K : PySem.W.Frag} {F : Hp} : ∀ ns : List Str, RpA K F (ns.map V.str) (ns.map PyData.str)
  | [] => .nil
  | n :: ns => .cons (.str n) (rpa_strs ns)
section
variable {X : Cx} {W : WX} {e a b c o : Expr} {es : List Expr} {p p1 p2 pos pos' apos : Pos} {ρ ρ' ρ1 ρ2 ρ3 : En} {x u w : Str} {d : PyData} {D : DE} {s t z sep : Str} {ys : List Str} {k : Bool}
theorem pn_split (hz : s.length ≤ 100000) (hp : (sep.length == 0) = false) (ho : PD X o ρ (.str s) ρ1) (he : PD X e ρ1 (.str sep) ρ2) (hs : starEach [e] X.env = [(false, eval e X.env)] := by rfl)
    (hbase : attributeBase o "split" X.env (eval o X.env) = eval o X.env := by rfl) (hline : (apos.endLine == pos.line) = true := by rfl) : PN X (.Call (.Attribute o "split" apos) [e] [] pos) ρ (.l ((Txt.split s sep).map .str)) ρ2 :=
  PE_imp (pe_split ho he hs hbase hline) fun σ H Q ⟨C, F, se, q⟩ => ⟨C, F, se, fun v F1 H1 x1 e1 r1 => by
    rw [rp_str r1]
    refine ⟨⟨s, rfl⟩, C, F1, e1, fun w F2 H2 x2 e2 r2 => ?_⟩
    rw [rp_str r2]
    refine ⟨s, sep, rfl, rfl, hp, Nat.le_trans (Nat.add_le_add_right hz 2) (by decide), fun p hp => ?_⟩
    obtain ⟨h1, h2, h3, h4⟩ := e2.lay (o := .lst ((Txt.split s sep).map V.str)) hp
    exact q p F2 _ (x1.trans x2) h1 h2 h3 h4 ⟨_, upd_same, rpa_strs _⟩⟩
theorem pd_intS {n : Int} (hn : PySem.intText? s = some n) (hl : s.length ≤ 640) (hm : X.mg ("int" : Str) = none) (ha : PD X a ρ (.str s) ρ1) (hg : Gl X "int" := by rfl) (he : starEach [a] X.env = (false, eval a X.env) :: starEach [] X.env := by rfl) : PD X (.Call (.Name "int" p) [a] [] pos) ρ (.int n) ρ1 :=
  pd_ty call_int_str (fun F H vs Q e r q => by
    obtain ⟨v, rfl, h⟩ := rpa_one r
    rw [rp_str h]
    exact ⟨s, n, rfl, hn, hl, q _ F H (.refl e) (.int _)⟩) (ad_one ha he) hm rfl hg (by decide) (by decide) he
def reprB (k : Bool) : Str := if k then "True" else "False"
theorem cr_reprB : CallR X (.builtin "repr") (fun xs H Q => ∃ k, xs = [.bl k] ∧ Q (.str (reprB k)) H) := by
  intro pins s σ H xs us Q I r h
  obtain ⟨k, rfl, q⟩ := h
  cases r with
  | cons r1 r2 =>
    cases r2
    cases r1
    exact P.repr_of_bool ⟨.str (reprB k), H, I.tok _, ⟨_, rfl⟩, q⟩
theorem pd_reprB (hm : X.mg ("repr" : Str) = none) (ha : PD X a ρ (.bool k) ρ1) (hg : Gl X "repr" := by rfl) (he : starEach [a] X.env = (false, eval a X.env) :: starEach [] X.env := by rfl) : PD X (.Call (.Name "repr" p) [a] [] pos) ρ (.str (reprB k)) ρ1 :=
  pd_bi cr_reprB (fun F H vs Q e r q => by
    obtain ⟨v, rfl, h⟩ := rpa_one r
    rw [rp_bool h]
    exact ⟨k, rfl, q _ F H (.refl e) (.str _)⟩) (ad_one ha he) hm rfl hg (by decide) (by decide) he
/-- the same data twice -/
theorem td_neSame (hu : X.A.units + 64 < cLine) (hx : flat d = true) (hp : d.plain = true) (ha : PD X a ρ d ρ1) (hb : PD X b ρ1 d ρ2) : TD X (.Compare a [.NotEq] [b] pos) ρ false ρ2 :=
  td_cast (by rw [PySem.SeqAt.eqv_refl_plain d hp]; rfl) (td_ne hu hx hx ha hb)
end
/-- texts that can be laid -/
abbrev As := { s : Str // PyData.strOk s = true }
instance : Inhabited As := ⟨⟨"", by decide +kernel⟩⟩
abbrev dAs (s : As) : PyData := .str s.1
theorem eqd_as : EqD 1 dAs := ⟨fun n => ⟨n.2, by simp [PyData.depth]⟩, fun a b => by
  show (a.1 == b.1) = _
  rw [Bool.beq_eq_decide_eq, Bool.eq_iff_iff]
  simp [Subtype.ext_iff]⟩
theorem as_list (zs : List As) : PyData.list (zs.map dAs) = PyData.list ((zs.map (·.1)).map PyData.str) := by rw [List.map_map]; rfl
theorem mem_joinS {sep : Str} {c : Nat} : ∀ {ps : List Str} {x : Str}, x ∈ ps → c ∈ x.cps.toList → c ∈ (Str.join sep ps).cps.toList
  | [a], x, h, hc => by rw [List.mem_singleton.mp h] at hc; exact hc
  | a :: b :: r, x, h, hc => by
    show c ∈ (a ++ sep ++ Str.join sep (b :: r)).cps.toList
    rw [app_cps, app_cps]
    rcases List.mem_cons.mp h with rfl | h
    · exact List.mem_append_left _ (List.mem_append_left _ hc)
    · exact List.mem_append_right _ (mem_joinS h hc)
theorem strOk_iff {s : Str} : PyData.strOk s = true ↔ ∀ c ∈ s.cps.toList, c < 0x110000 := by
  unfold PyData.strOk
  rw [← Array.all_toList, List.all_eq_true]
  simp
theorem strOk_spl {s sep : Str} (h : PyData.strOk s = true) : ∀ x ∈ Txt.split s sep, PyData.strOk x = true := fun x hx => strOk_iff.mpr fun c hc => by
  have e := StrLaws.join_split s sep
  exact strOk_iff.mp h c (by rw [← e]; exact mem_joinS hx hc)
def splA (s : As) (sep : Str) : List As := (Txt.split s.1 sep).attach.map fun x => ⟨x.1, strOk_spl s.2 x.1 x.2⟩
theorem splA_1 (s : As) (sep : Str) : (splA s sep).map (·.1) = Txt.split s.1 sep := by
  unfold splA
  rw [List.map_map]
  exact List.attach_map_subtype_val _
theorem spl_as (s : As) (sep : Str) : PyData.list ((Txt.split s.1 sep).map PyData.str) = dL dAs (splA s sep) := by
  show _ = PyData.list ((splA s sep).map dAs)
  rw [as_list, splA_1]
theorem splA_len (s : As) (sep : Str) : (splA s sep).length = (Txt.split s.1 sep).length := by rw [← splA_1, List.length_map]
theorem splA_mem {s x : As} {sep : Str} (h : x ∈ splA s sep) : x.1 ∈ Txt.split s.1 sep := by rw [← splA_1]; exact List.mem_map.mpr ⟨x, h, rfl⟩
theorem eqd_O {α : Type} [DecidableEq α] {f : α → PyData} {m : Nat} (e : EqD m f) (hn : ∀ a, PyData.eqv (f a) .none = false ∧ PyData.eqv .none (f a) = false) : EqD (m + 1) (dO f) := ⟨fun a => by
    cases a with
    | none => exact ⟨rfl, by show PyData.depth .none ≤ _; simp [PyData.depth]⟩
    | some a => exact ⟨(e.lay a).1, Nat.le_succ_of_le (e.lay a).2⟩, fun a b => by
    cases a with
    | none =>
      cases b with
      | none => rfl
      | some b => exact (hn b).2
    | some a =>
      cases b with
      | none => exact (hn a).1
      | some b =>
        show PyData.eqv (f a) (f b) = _
        rw [e.eqv, Bool.eq_iff_iff]
        simp⟩
end G

/-! GSet: set comprehensions of ints and texts (HandS.SetBool's way, turned to HandS.SetKeys' sets), their len. -/
namespace G
open PySem PySem.Spec PyProof.Rows L2 PpSet
section
variable {X : Cx}
theorem addK_ok {pins : List (Addr × Obj)} {σ : L2.St} {H : Hp} {s : Shared} {E : Value → Shared → Prop} {D : Addr} {S : Key → Bool} {n : Nat} {k : Key} {u : Value} {Q : Value → Shared → Prop} (I : Inv X pins σ H s) (ry : RelV (kV k) u) (hD : H D = some (SetK X.prog X.w D S n)) (room : n + 1 < scanBound)
    (h : ∀ s', Inv X pins σ (upd H D (SetK X.prog X.w D (fun j => S j || decide (j = k)) (if S k = true then n else n + 1))) s' → Q .none s') : wpAny (model X.prog X.w) X.A (call (.builtin "set.add") [.ref D, u]) Q E s := by
  refine call_set_add (kV_is ry) (key_scan ry) (setK_get I hD) room fun h' sb new => ?_
  have he : ∃ u, h'.get? D = some u := by
    have ⟨o, _, _, _, ho, _⟩ := new
    exact ⟨o, ho⟩
  exact h _ (I.write (e := D) (t' := s.toks + 1) (by rw [hD]; trivial) (.inl rfl) (fun b u hb hu => (sb.2 b hb).trans hu) he (setK_new new))
/-- {elt for target in iter if ..}, elt a key: D the new set -/
def tSk (P : Program) (w : World) (wi : TI) (g : TG) (tt : TT) (te : TE) (vs : List Nat) : TE := fun σ H Q => wi σ H fun J H1 => ∀ D, H1 D = none → ∃ W : Nat → Nat → Hp → Prop, (∃ m, W 0 m (upd H1 D (SetK P w D (fun _ => false) 0))) ∧ ∀ i m H, W i m H →
  (J.stop i H ∧ Q (.ref D) H) ∨ (J.go i H ∧ ∃ Nx : Hp → Prop, (∀ H', Nx H' → ∃ m', m' < m ∧ W (i + 1) m' H') ∧ ∀ x H', J.yld i H x H' → g x (wipe σ vs) H' fun σ2 H2 => wipe σ2 vs = wipe σ vs ∧ tt σ2 H2 fun b H3 =>
    if b = true then te σ2 H3 fun y H4 => ∃ (c : Key) (S : Key → Bool) (n : Nat), y = kV c ∧ H4 D = some (SetK P w D S n) ∧ n + 1 < scanBound ∧ Nx (upd H4 D (SetK P w D (fun j => S j || decide (j = c)) (if S c = true then n else n + 1))) else Nx H3)
theorem sk_core {pins : List (Addr × Obj)} {s : Shared} {σ : L2.St} {H : Hp} {Q : VK} {elt tg iter : Expr} {ifs : List Expr} {scope : Scope} {own : List (PySem.Str × Nat)} {pos pos' : Pos} {wi : TI} {g : TG} {tt : TT} {te : TE} {use : Option (Value → Sem Unit)} {Qf : Value → Shared → Prop}
    (hc : X.calm = true) (hN : X.N.Nodup) (I : Inv X pins σ H s) (hi : PI X tg iter wi) (ok : BlkOk X.N X.env.scope scope own)
    (hg : ∀ (s : Shared) (H : Hp) (C : Addr) (cl : List (PySem.Str × Addr)) (fp : List Addr), PG (X.blk s H scope (compEnvC scope cl C X.env) fp) tg g) (ht : ∀ (s : Shared) (H : Hp) (C : Addr) (cl : List (PySem.Str × Addr)) (fp : List Addr), PTs (X.blk s H scope (compEnvC scope cl C X.env) fp) ifs tt)
    (he : ∀ (s : Shared) (H : Hp) (C : Addr) (cl : List (PySem.Str × Addr)) (fp : List Addr), PE (X.blk s H scope (compEnvC scope cl C X.env) fp) elt te) (hs : ∀ x, foldedSetIterable iter X.env x = pure x)
    (h : tSk X.prog X.w wi g tt te (own.map (·.2)) σ H Q)
    (hRR : ∀ D C s' m H', Inv X pins σ H' s' → Q (.ref D) H' → s'.heap.Ns C m → FpOk X pins H' C → compPost (model X.prog X.w) X.A X.xe use Qf (.ref D) C (.ok .next) s') :
    wpAny (model X.prog X.w) X.A (comprehension (.SetComp elt [⟨tg, iter, ifs, 0⟩] scope pos) scope X.env pos' (newSet (.type "set")) false (eval iter X.env) use) Qf X.xe s := by
  have hfree : ∀ y ∈ scope.names, y.2 = .free → ∃ c, X.env.cells.lookup y.1 = some c := fun y hy e => by
    rcases ok.free y hy e with k | k
    · exact I.ok.has _ (.inl k)
    · exact I.ok.has _ (.inr k)
  refine wpAny_comprehension_free (use := use) rfl hs (closure_ok hfree) ok.kind (fun y hy e => by rw [ok.uniq y hy, e])
    (thn (hi.run pins s σ H _ I h) fun xv s1 hx => thn hx fun itv s2 h2 => ?_)
  obtain ⟨it, fp, tn, J, H2, e, I2, T, st2, f2, q⟩ := h2
  subst e
  refine newSet_ok (newEnv_comp ?_)
  generalize hD : s2.heap.objs.size = D
  have hDn : H2 D = none := I2.hok.fresh (Nat.le_of_eq hD)
  obtain ⟨W, ⟨m0, w0⟩, turn⟩ := q D hDn
  -- the new list
  generalize hs3 : ({ s2 with heap := s2.heap.push { cls := .type "set", dict := none, data := .set #[] 0 (.fresh 0 0 (!X.w.params.followText "set-order")) } } : Shared) = s3
  have I3 : Inv X pins σ (upd H2 D (SetK X.prog X.w D (fun _ => false) 0)) s3 := by
    rw [← hs3]
    refine I2.laid (t' := s2.toks) (fun b o e => Heap.get?_push_of_some _ e) (Nat.le_of_eq hD) ?_
    rw [← hD]
    exact setK_new ⟨_, #[], 0, _, Heap.get?_push_size _ rfl, ⟨rfl, rfl, rfl⟩, rfl, (fun e he => by simp at he), (fun k => by simp), (by decide), (by rfl), rfl⟩
  have h3 : s3.heap = s2.heap.push { cls := .type "set", dict := none, data := .set #[] 0 (.fresh 0 0 (!X.w.params.followText "set-order")) } := by rw [← hs3]
  have sz : ∀ b ∈ fp, b < s2.heap.objs.size := fun b hb => by
    obtain ⟨o, e, _⟩ := T.obj _ _ st2 b hb
    exact Heap.lt_size e
  have f3 : ∀ b ∈ fp, FpOk X pins (upd H2 D (SetK X.prog X.w D (fun _ => false) 0)) b ∧ b < s3.heap.objs.size := fun b hb => by
    have hlt := sz b hb
    refine ⟨⟨?_, (f2 b hb).2⟩, by rw [h3, Heap.size_push]; exact Nat.lt_succ_of_lt hlt⟩
    rw [upd_ne (by rw [← hD]; exact Nat.ne_of_lt hlt)]
    exact (f2 b hb).1
  have st3 : tn 0 s3.heap := T.keep _ _ _ st2 fun b _ o e => by rw [h3]; exact Heap.get?_push_of_some _ e
  have I4 := block_start I3 ok hN f3
  have pg := hg s3 (upd H2 D (SetK X.prog X.w D (fun _ => false) 0)) s3.heap.objs.size (cellsFrom (s3.heap.objs.size + 1) scope.names (cloFrom X.env.cells scope.names [])) fp
  have pt := ht s3 (upd H2 D (SetK X.prog X.w D (fun _ => false) 0)) s3.heap.objs.size (cellsFrom (s3.heap.objs.size + 1) scope.names (cloFrom X.env.cells scope.names [])) fp
  have pe := he s3 (upd H2 D (SetK X.prog X.w D (fun _ => false) 0)) s3.heap.objs.size (cellsFrom (s3.heap.objs.size + 1) scope.names (cloFrom X.env.cells scope.names [])) fp
  show codeAny _ _ (.compStart (.SetComp elt [⟨tg, iter, ifs, 0⟩] scope pos) 0 (.ref it) (.ref D) (compEnvC scope (cellsFrom (s3.heap.objs.size + 1) scope.names (cloFrom X.env.cells scope.names [])) s3.heap.objs.size X.env)) (compPost (model X.prog X.w) X.A X.xe use Qf (.ref D) s3.heap.objs.size) { s3 with heap := pushCells (s3.heap.push { cls := .type "dict", data := .dict #[] }) scope.names }
  have nfp : ∀ b ∈ fp, (upd H2 D (SetK X.prog X.w D (fun _ => false) 0)) b = none := fun b hb => (f3 b hb).1.1
  generalize hce : compEnvC scope (cellsFrom (s3.heap.objs.size + 1) scope.names (cloFrom X.env.cells scope.names [])) s3.heap.objs.size X.env = ce at I4 pg pt pe ⊢
  have cL : ce.locals = s3.heap.objs.size := by subst hce; rfl
  generalize hH3 : upd H2 D (SetK X.prog X.w D (fun _ => false) 0) = H3 at I3 I4 pg pt pe w0 nfp f3
  generalize hs4 : ({ s3 with heap := pushCells (s3.heap.push { cls := .type "dict", data := .dict #[] }) scope.names } : Shared) = s4 at I4 ⊢
  have st4 : tn 0 s4.heap := T.keep _ _ _ st3 fun b _ o e => by rw [← hs4]; exact pushCells_keeps _ _ _ _ (Heap.get?_push_of_some _ e)
  have stat : ∀ {σ' : L2.St} {H' : Hp} {s' : Shared}, Inv (X.blk s3 H3 scope ce fp) [] σ' H' s' → (∀ b ∈ fp, H' b = none) → ∀ b ∈ fp, FpOk (X.blk s3 H3 scope ce fp) [] H' b := fun {σ' H' s'} I' hn b hb =>
    ⟨hn b hb, (I'.ok.exf b hb).1, I'.ok.exfs b hb, .inl hb, fun x c e => (I'.ok.exf b hb).2 x c e, fun p hp => absurd (show p ∈ ([] : List (Addr × Obj)) ++ [] from hp) (by simp)⟩
  have loop : codeAny (model X.prog X.w) X.A (.compLoop (.SetComp elt [⟨tg, iter, ifs, 0⟩] scope pos) 0 (.ref it) (.ref D) ce) (compPost (model X.prog X.w) X.A X.xe use Qf (.ref D) s3.heap.objs.size) s4 := by
    refine compLoopS_any (fun n s' => ∃ i H', Inv (X.blk s3 H3 scope ce fp) [] (wipe σ (own.map (·.2))) H' s' ∧ tn i s'.heap ∧ (∀ b ∈ fp, H' b = none) ∧ W i n H') ?_ m0 ⟨0, H3, I4, st4, nfp, w0⟩
    rintro n s5 ⟨i, H5, I5, st5, n5, w5⟩
    rcases turn i n H5 w5 with ⟨stop, qq⟩ | ⟨go, Nx, hNx, step⟩
    · have td := T.done (X.blk s3 H3 scope ce fp) rfl rfl rfl hc i [] s5 _ H5 (fun _ _ => False) I5 (stat I5 n5) st5 stop
      refine thnF td fun r s6 ⟨hr, I6⟩ => ?_
      subst hr
      -- back in the def's context
      have I7 : Inv X pins σ H5 s6 := I3.call' (ch := fp) I6.os I6.base I6.hok I6.bare fun b hb => ⟨(f3 b hb).1.2.2.2.1, (f3 b hb).1.2.1, (f3 b hb).1.2.2.2.2.1, (f3 b hb).1.2.2.2.2.2⟩
      have nC : H5 s3.heap.objs.size = none := by
        have z : H5 ce.locals = none := I6.free
        rw [cL] at z
        exact z
      obtain ⟨m, hn, _⟩ := I6.loc
      have hn : s6.heap.Ns ce.locals m := hn
      rw [cL] at hn
      exact hRR D s3.heap.objs.size s6 m H5 I7 qq hn (I3.fpOk (Nat.le_refl _) nC)
    · have ti := T.item (X.blk s3 H3 scope ce fp) rfl rfl rfl hc i [] s5 _ H5 (fun _ _ => False) I5 (stat I5 n5) st5 go
      refine thnF ti fun r s6 ⟨u, hr, h6⟩ => ?_
      subst hr
      refine thnF h6 fun _ s7 ⟨x, H7, I7, r7, y7, st7, n7⟩ => ?_
      have I7' := I7.pinned (stat I7 n7) (T.obj _ _ st7)
      refine thnF (pg.run _ s7 _ H7 x u _ I7' r7 (step x H7 y7)) fun _ s8 ⟨σ8, H8, I8, hw8, q8⟩ => ?_
      refine thnF (pt.run _ s8 σ8 H8 _ I8 q8) fun b s9 ⟨H9, I9, q9⟩ => ?_
      -- the turn's end
      have fin : ∀ {s' : Shared} {H' : Hp}, Inv (X.blk s3 H3 scope ce fp) ([] ++ pinsAt fp s7.heap) σ8 H' s' → Nx H' → ∃ m, m < n ∧ ∃ i H', Inv (X.blk s3 H3 scope ce fp) [] (wipe σ (own.map (·.2))) H' s' ∧ tn i s'.heap ∧ (∀ b ∈ fp, H' b = none) ∧ W i m H' := fun {s' H'} I' nx => by
        obtain ⟨m', hm, w'⟩ := hNx H' nx
        have pin' : ∀ b ∈ fp, ∀ o, s7.heap.get? b = some o → s'.heap.get? b = some o ∧ H' b = none := fun b hb o e =>
          let z := I'.pin (b, o) (List.mem_append_right _ (List.mem_append_right _ (mem_pinsAt hb e)))
          ⟨z.1, z.2.1⟩
        have hl : (wipe σ (own.map (·.2))).length = σ8.length := by rw [← hw8, wipe_length]
        refine ⟨m', hm, i + 1, H', (I'.unpinned (pins := [])).weak hl (fun j v e => ?_), T.keep _ _ _ st7 fun b hb o e => (pin' b hb o e).1, fun b hb => ?_, w'⟩
        · rw [← hw8] at e
          exact (wipe_some e).1
        · obtain ⟨o, e, _⟩ := T.obj _ _ st7 b hb
          exact (pin' b hb o e).2
      cases b with
      | false =>
        simp only [Bool.false_eq_true, if_false] at q9 ⊢
        exact fin I9 q9
      | true =>
        simp only [if_true] at q9 ⊢
        refine thnF (pe.run _ s9 σ8 H9 _ I9 q9) fun z s10 ⟨yv, H10, I10, r10, ck, S0, n0, ey, hD10, hz10, nx⟩ => ?_
        subst ey
        exact addK_ok (X := X.blk s3 H3 scope ce fp) I10 r10 hD10 hz10 fun s11 I11 => fin I11 nx
  exact codeAny_compStart_set loop (T.self X.A 0 _ _ _ st4 loop)
/-- as a value -/
theorem pe_sk {elt tg iter : Expr} {ifs : List Expr} {scope : Scope} {own : List (PySem.Str × Nat)} {pos : Pos} {wi : TI} {g : TG} {tt : TT} {te : TE} (hc : X.calm = true) (hN : X.N.Nodup) (hi : PI X tg iter wi) (ok : BlkOk X.N X.env.scope scope own)
    (hg : ∀ (s : Shared) (H : Hp) (C : Addr) (cl : List (PySem.Str × Addr)) (fp : List Addr), PG (X.blk s H scope (compEnvC scope cl C X.env) fp) tg g) (ht : ∀ (s : Shared) (H : Hp) (C : Addr) (cl : List (PySem.Str × Addr)) (fp : List Addr), PTs (X.blk s H scope (compEnvC scope cl C X.env) fp) ifs tt)
    (he : ∀ (s : Shared) (H : Hp) (C : Addr) (cl : List (PySem.Str × Addr)) (fp : List Addr), PE (X.blk s H scope (compEnvC scope cl C X.env) fp) elt te) (hs : ∀ x, foldedSetIterable iter X.env x = pure x := by intro _; rfl) :
    PE X (.SetComp elt [⟨tg, iter, ifs, 0⟩] scope pos) (tSk X.prog X.w wi g tt te (own.map (·.2))) := by
  refine ⟨fun pins s σ H Q I h => ?_⟩
  rw [eval_SetComp]
  refine sk_core hc hN I hi ok hg ht he hs h fun D C s' m H' I' q hn f => ⟨m, hn, fun h'' sb => ?_⟩
  obtain ⟨f0, f1, f2, f3, f4, f5⟩ := f
  exact ⟨.ref D, H', I'.turned (t' := s'.toks) (fun b o hb e => (sb.2 b hb).trans e) f0 f1 f3 f4 f5, rfl, q⟩
end
end G

/-! GSetB: set comprehensions over data, in the words of G; len. -/
namespace G
open PySem PySem.Spec PyProof.Rows L2
/-- a set after one more key -/
def addS (z : (Key → Bool) × Nat) (k : Key) : (Key → Bool) × Nat := (fun j => z.1 j || decide (j = k), if z.1 k = true then z.2 else z.2 + 1)
def setS (ks : List Key) : (Key → Bool) × Nat := ks.foldl addS (fun _ => false, 0)
theorem setS_snoc (ks : List Key) (k : Key) : setS (ks ++ [k]) = addS (setS ks) k := by unfold setS; rw [List.foldl_append]; rfl
theorem setS_le : ∀ n (ks : List Key), ks.length = n → (setS ks).2 ≤ ks.length := by
  intro n
  induction n with
  | zero => intro ks h; rw [List.length_eq_zero_iff.mp h]; exact Nat.le_refl _
  | succ n ih =>
    intro ks h
    have hne : ks ≠ [] := fun z => by rw [z] at h; cases h
    have e := List.dropLast_concat_getLast hne
    rw [← e, setS_snoc]
    have l1 : ks.dropLast.length = n := by rw [List.length_dropLast]; omega
    have := ih _ l1
    rw [List.length_append]
    unfold addS
    dsimp only
    split <;> simp <;> omega
theorem kV_of {K : PySem.W.Frag} {F : Hp} {v : V} {k : Key} (r : Rp K F v (kD k)) : v = kV k := by
  cases k with
  | inl i => exact rp_int r
  | inr x => exact rp_str r
def tSkD (K : PySem.W.Frag) (P : Program) (w : World) (ρ : En) (z : (Key → Bool) × Nat) (ρ' : En) : TE := fun σ H Q => ∃ C F, SE K C F H σ ρ ∧ ∀ p F' H', Ex F F' → SE K C F' H' σ ρ' → H' p = some (SetK P w p z.1 z.2) → Q (.ref p) H'
/-- e makes a new set of keys -/
abbrev PSk (X : Cx) (e : Expr) (ρ : En) (z : (Key → Bool) × Nat) (ρ' : En) : Prop := PE X e (tSkD X.K X.prog X.w ρ z ρ')
section
variable {X : Cx} {e elt tg iter : Expr} {scope : Scope} {own : List (Str × Nat)} {src : Option Nat} {ρ ρ1 : En} {its : List PyData} {ok : En → Prop} {pos p : Pos}
theorem sk_read {Q : VK} {σ : L2.St} {H : Hp} {Kk : PySem.W.Frag} {P : Program} {w : World} {C : Cn} {F : Hp} {J : It} {vs : List Nat} {g : TG} {te : TE} {ρt ρe : Nat → En} {ks : Nat → Key} (se : SE Kk C F H σ ρ1) (wk : Wk Kk F σ J its ok src) (hsrc : ∀ j, src = some j → j ∉ vs) (hok : ok (wipeE ρ1 vs)) (hlen : its.length < 900)
    (hg : ∀ i d, its[i]? = some d → ∀ v σ H Q, tGv Kk vs d (wipeE ρ1 vs) (ρt i) v σ H Q → g v σ H Q) (he : ∀ i d, its[i]? = some d → ∀ σ H Q, tP Kk (ρt i) (kD (ks i)) (ρe i) σ H Q → te σ H Q)
    (hnx : ∀ (i : Nat) (d : PyData), its[i]? = some d → Le (wipeE ρ1 vs) (ρe i))
    (hq : ∀ p F' H', Ex F F' → SE Kk C F' H' σ (restE ρ1 ρ1 vs) → H' p = some (SetK P w p (setS ((List.range its.length).map ks)).1 (setS ((List.range its.length).map ks)).2) → Q (.ref p) H') :
    ∀ Dl, H Dl = none → ∃ W : Nat → Nat → Hp → Prop, (∃ m, W 0 m (upd H Dl (SetK P w Dl (fun _ => false) 0))) ∧ ∀ i m H, W i m H →
      (J.stop i H ∧ Q (.ref Dl) H) ∨ (J.go i H ∧ ∃ Nx : Hp → Prop, (∀ H', Nx H' → ∃ m', m' < m ∧ W (i + 1) m' H') ∧ ∀ v H', J.yld i H v H' →
        g v (L2.wipe σ vs) H' fun σ2 H2 => L2.wipe σ2 vs = L2.wipe σ vs ∧ tYes σ2 H2 fun b H3 =>
            if b = true then te σ2 H3 fun y H4 => ∃ (c : Key) (S : Key → Bool) (n : Nat), y = kV c ∧ H4 Dl = some (SetK P w Dl S n) ∧ n + 1 < scanBound ∧ Nx (upd H4 Dl (SetK P w Dl (fun j => S j || decide (j = c)) (if S c = true then n else n + 1))) else Nx H3) := by
  intro Dl hD
  have w0 := (se.le (wipeE_le ρ1 vs)).wiped
  let z (i : Nat) := setS ((List.range i).map ks)
  let St (i : Nat) (H' : Hp) : Prop := ∃ F', Ex F F' ∧ SE Kk C F' H' (L2.wipe σ vs) (wipeE ρ1 vs) ∧ F' Dl = none ∧ H' Dl = some (SetK P w Dl (z i).1 (z i).2) ∧ (∀ j, ¬ Owns (L2.wipe σ vs) (wipeE ρ1 vs) j Dl)
  have c0 : C.H0 Dl = none := se.fr.there Dl hD
  have fD : F Dl = none := se.fr.ext.none hD
  refine ⟨fun i m H => m = its.length - i ∧ i ≤ its.length ∧ St i H, ⟨its.length, by simp, Nat.zero_le _, F, .refl _, w0.grow (.side w0.fr.ext hD), fD, upd_same, not_owns_new w0 hD⟩, ?_⟩
  rintro i m H1 ⟨rfl, hle, F1, x1, e1, f1, h1, n1⟩
  have same : ∀ j, src = some j → (L2.wipe σ vs)[j]? = σ[j]? := fun j q => wipe_out (hsrc j q)
  by_cases hlt : i < its.length
  · refine .inr ⟨wk.go i _ F1 H1 _ _ x1 e1 hok same hlt, St (i + 1), fun H' q => ⟨its.length - (i + 1), by omega, rfl, hlt, q⟩, fun v H2 y => ?_⟩
    have e1' := e1.pin c0 h1 n1
    obtain ⟨d, F2, hd, x2, e2, r2⟩ := wk.yld i _ F1 H1 _ _ v H2 x1 e1' hok same hlt y
    refine hg i d hd _ _ _ _ ⟨_, F2, e2, r2, fun σ3 F3 H3 w3' x3 e3 => ?_⟩
    have w3 := w3'.trans wipe_wipe
    refine ⟨w3, ?_⟩
    show (if (true : Bool) = true then _ else St (i + 1) H3)
    refine iteT ?_
    refine he i d hd _ _ _ ⟨_, F3, e3, fun y F5 H5 x5 e5 r5 => ?_⟩
    obtain ⟨e6, f6, h6, n6⟩ := SE.unpin e1.fr c0 f1 (e5.le (hnx i d hd)).wiped (by intro _ h; unfold SetK at h; cases h)
    rw [w3] at e6 n6
    have zl : (z i).2 ≤ i := by
      have := setS_le _ ((List.range i).map ks) rfl
      rw [List.length_map, List.length_range] at this
      exact this
    refine ⟨ks i, _, _, kV_of r5, h6, by have : (1000 : Nat) ≤ scanBound := by decide
                                         omega, F5, x1.trans (x2.trans (x3.trans x5)), e6.wrx c0 f6 h6 n6, f6, ?_, n6⟩
    have ez : z (i + 1) = addS (z i) (ks i) := by
      show setS _ = addS (setS _) _
      rw [List.range_succ, List.map_append]
      exact setS_snoc _ _
    rw [ez]
    exact upd_same
  · have q : i = its.length := by omega
    subst q
    obtain ⟨b1, b2⟩ := SE.back se x1 e1
    exact .inl ⟨wk.stop _ F1 H1 _ _ x1 e1 hok same, hq Dl F1 H1 x1 b1 h1⟩
/-- {elt for tg in iter}, elt a key -/
theorem pk_sc (ks : Nat → Key) (hb : BlkOk X.N X.env.scope scope own) (hi : ID X tg iter ρ its ok src ρ1) (hsrc : ∀ j, src = some j → j ∉ own.map (·.2)) (hok : ok (wipeE ρ1 (own.map (·.2)))) (hlen : its.length < 900) (hN : X.N.Nodup)
    (hT : ∀ i d, its[i]? = some d → ∃ ρt ρe, (∀ Y, IsBlk X scope Y → GV Y (own.map (·.2)) tg d (wipeE ρ1 (own.map (·.2))) ρt) ∧ (∀ Y, IsBlk X scope Y → PE Y elt (tP X.K ρt (kD (ks i)) ρe)) ∧ Le (wipeE ρ1 (own.map (·.2))) ρe)
    (hc : X.calm = true := by rfl) (hs : ∀ x, foldedSetIterable iter X.env x = pure x := by intro _; rfl) :
    PSk X (.SetComp elt [⟨tg, iter, [], 0⟩] scope pos) ρ (setS ((List.range its.length).map ks)) (restE ρ1 ρ1 (own.map (·.2))) := by
  have hT' : ∀ i, ∃ r : En × En, ∀ d, its[i]? = some d → (∀ Y, IsBlk X scope Y → GV Y (own.map (·.2)) tg d (wipeE ρ1 (own.map (·.2))) r.1) ∧ (∀ Y, IsBlk X scope Y → PE Y elt (tP X.K r.1 (kD (ks i)) r.2)) ∧ Le (wipeE ρ1 (own.map (·.2))) r.2 := fun i => by
    cases h : its[i]? with
    | none => exact ⟨([], []), fun d z => nomatch z⟩
    | some d =>
      obtain ⟨a, b, h1, h2, h3⟩ := hT i d h
      exact ⟨(a, b), fun d' z => by cases z; exact ⟨h1, h2, h3⟩⟩
  obtain ⟨r, hr⟩ := Classical.axiomOfChoice hT'
  have hg := fun (s : Shared) (H : Hp) (C : Addr) (cl : List (Str × Addr)) (fp : List Addr) => PG_ex (t := fun (p : { p : Nat × PyData // its[p.1]? = some p.2 }) => tGv X.K (own.map (·.2)) p.1.2 (wipeE ρ1 (own.map (·.2))) (r p.1.1).1) fun p => (hr p.1.1 p.1.2 p.2).1 _ ⟨s, H, C, cl, fp, rfl⟩
  have he := fun (s : Shared) (H : Hp) (C : Addr) (cl : List (Str × Addr)) (fp : List Addr) => PE_ex fun p : { p : Nat × PyData // its[p.1]? = some p.2 } => (hr p.1.1 p.1.2 p.2).2.1 _ ⟨s, H, C, cl, fp, rfl⟩
  refine PE_imp (pe_sk hc hN hi hb hg (fun _ _ _ _ _ => pts_nil) he hs) fun σ H Q ⟨C, F, se, q⟩ => ⟨C, F, se, fun J F1 H1 x1 e1 wk => ?_⟩
  exact sk_read (ρt := fun i => (r i).1) (ρe := fun i => (r i).2) (ks := ks) (g := fun v σ H Q => ∃ p : { p : Nat × PyData // its[p.1]? = some p.2 }, tGv X.K (own.map (·.2)) p.1.2 (wipeE ρ1 (own.map (·.2))) (r p.1.1).1 v σ H Q)
    (te := fun σ H Q => ∃ p : { p : Nat × PyData // its[p.1]? = some p.2 }, tP X.K (r p.1.1).1 (kD (ks p.1.1)) (r p.1.1).2 σ H Q) e1 wk hsrc hok hlen (fun i d hd v σ H Q t => ⟨⟨(i, d), hd⟩, t⟩) (fun i d hd σ H Q t => ⟨⟨(i, d), hd⟩, t⟩) (fun i d hd => (hr i d hd).2.2) fun p F2 H2 x2 e2 o2 => q p F2 H2 (x1.trans x2) e2 o2
theorem cr_lenK : CallR X (.builtin "len") (fun xs H Q => ∃ (a : Addr) (S : Key → Bool) (n : Nat), xs = [.ref a] ∧ H a = some (SetK X.prog X.w a S n) ∧ n ≤ 100000 ∧ Q (.int (n : Int)) H) := by
  intro pins s σ H xs us Q I r h
  obtain ⟨a, S, n, rfl, ha, hn, q⟩ := h
  cases r with
  | cons r1 r2 =>
    cases r2
    obtain rfl : _ = Value.ref a := r1
    obtain ⟨o, es, ep, t, ho, hex, hd, _, _, _, hf, hz⟩ := setK_get I ha
    exact call_len_set ho hex hd hf (by rw [hz]; omega) ⟨.int (n : Int), H, I.tok _, ⟨_, by rw [hz]⟩, q⟩
theorem pd_lenSk {z : (Key → Bool) × Nat} (hm : X.mg ("len" : Str) = none) (h : PSk X e ρ z ρ1) (hz : z.2 ≤ 100000) (hg : Gl X "len" := by rfl) (he : starEach [e] X.env = (false, eval e X.env) :: starEach [] X.env := by rfl) : PD X (.Call (.Name "len" p) [e] [] pos) ρ (.int (z.2 : Int)) ρ1 :=
  PE_imp (pe_callB cr_lenK hg hm rfl (pa_cons h pa_nil he) (by decide) (by decide) he) fun σ H Q ⟨C, F, se, q⟩ => ⟨C, F, se, fun p F1 H1 x1 e1 ho => ⟨p, z.1, z.2, rfl, ho, hz, q _ F1 H1 x1 e1 (.int _)⟩⟩
end
/-- a set's len: how many unlike keys -/
theorem setS_has (ks : List Key) : ∀ k, (setS ks).1 k = true ↔ k ∈ ks := by
  have key : ∀ n (ks : List Key), ks.length = n → ∀ k, (setS ks).1 k = true ↔ k ∈ ks := by
    intro n
    induction n with
    | zero => intro ks h k; rw [List.length_eq_zero_iff.mp h]; simp [setS]
    | succ n ih =>
      intro ks h k
      have hne : ks ≠ [] := fun z => by rw [z] at h; cases h
      have e := List.dropLast_concat_getLast hne
      rw [← e, setS_snoc, List.mem_append, List.mem_singleton, ← ih _ (by rw [List.length_dropLast]; omega) k]
      unfold addS
      simp
  exact key _ ks rfl
theorem setS_nodup : ∀ n (ks : List Key), ks.length = n → ((setS ks).2 = ks.length ↔ ks.Nodup) := by
  intro n
  induction n with
  | zero => intro ks h; rw [List.length_eq_zero_iff.mp h]; simp [setS]
  | succ n ih =>
    intro ks h
    have hne : ks ≠ [] := fun z => by rw [z] at h; cases h
    have e := List.dropLast_concat_getLast hne
    have l1 : ks.dropLast.length = n := by rw [List.length_dropLast]; omega
    have h1 := ih _ l1
    have h2 := setS_le _ ks.dropLast rfl
    rw [← e, setS_snoc, List.length_append, List.length_singleton, List.nodup_append]
    unfold addS
    dsimp only
    by_cases q : (setS ks.dropLast).1 (ks.getLast hne) = true
    · rw [if_pos q]
      have q2 := (setS_has _ _).mp q
      constructor
      · intro z; omega
      · intro z; exact absurd rfl (z.2.2 _ q2 _ (List.mem_singleton.mpr rfl))
    · rw [if_neg q]
      have q2 : ks.getLast hne ∉ ks.dropLast := fun z => q ((setS_has _ _).mpr z)
      constructor
      · intro z
        refine ⟨h1.mp (by omega), by simp, fun a ha b hb e => ?_⟩
        rw [List.mem_singleton] at hb
        subst hb
        subst e
        exact q2 ha
      · intro z
        have := h1.mpr z.1
        omega
/-- texts as keys, one by one -/
theorem setS_range (ns : List As) : (List.range (ns.map dAs).length).map (fun i : Nat => (Sum.inr (gI ns (i : Int)).1 : Key)) = ns.map fun x : As => (Sum.inr x.1 : Key) := by
  rw [List.length_map]
  apply List.ext_getElem
  · rw [List.length_map, List.length_map, List.length_range]
  · intro i h1 h2
    rw [List.length_map] at h2
    rw [List.getElem_map, List.getElem_map, List.getElem_range, gI_nat, getElem!_pos ns i h2]
theorem key_at {ns : List As} {i : Nat} {d : PyData} (h : (ns.map dAs)[i]? = some d) : d = kD (Sum.inr (gI ns (i : Int)).1) := by
  rw [List.getElem?_map] at h
  cases q : ns[i]? with
  | none => rw [q] at h; cases h
  | some a =>
    rw [q] at h
    cases h
    have e : gI ns (i : Int) = a := gI_nat.trans (by rw [List.getElem!_eq_getElem?_getD, q]; rfl)
    rw [e]; rfl
theorem psk_cast {X : Cx} {e : Expr} {ρ ρ1 : En} {ks ks' : List Key} (q : ks = ks') (h : PSk X e ρ (setS ks) ρ1) : PSk X e ρ (setS ks') ρ1 := q ▸ h
end G

/-! GFld: try: body, except C as n: return n.f. -/
namespace G
open PySem PySem.Spec PyProof.Rows L2
def tFld (i : Nat) (C : Addr) (f : Str) (a : Addr) (cls : Value) (d : Option Addr) : TS := fun E σ H => (∃ σ0 : L2.St, σ = σ0.set i (some (.ref a))) ∧ cls = .ref C ∧ ∃ dd vs r, d = some dd ∧ H dd = some (.xd vs) ∧ vs.lookup f = some r ∧ E.rt r H
section
variable {X : Cx} {W : WX} {body : List Stmt} {D : DE} {ρ : En} {n w1 f : Str} {C1 : Addr} {np p1 p2 pos pos' pq : Pos}
theorem fld_suite (i : Nat) (xf : XfC X.K C1) (noF : PySem.W.findIn X.K (.ref C1) f = some none) (hi : X.N[i]? = some n) (hln : X.env.kindOf n = some .local) (hd : (n == ("__debug__" : Str)) = false) (hcd : (n == ("__classdict__" : Str)) = false)
    (a : Addr) (oe : Obj) (cls : Value) (d : Option Addr) (pn : List (Addr × Obj)) (hz : L2N.Zn cls d oe) (hv : ∃ vs, oe.data = .fields vs) (hb : attributeBase (.Name n p1) f X.env (eval (.Name n p1) X.env) = eval (.Name n p1) X.env := by rfl) :
    PSs (X.suite a ((a, oe) :: pn)) [.Return (some (.Attribute (.Name n p1) f p2)) pos] (tFld i C1 f a cls d) := by
  have h1 : PE (X.suite a ((a, oe) :: pn)) (.Name n p1) (tVar i) := pe_var (X := X.suite a ((a, oe) :: pn)) hi (Or.inl hln) hd hcd
  have h2 := pe_xf (X := X) (pos := p2) xf noF hz.zc hv h1 hb
  have h3 := pss_one (ps_ret (pos := pos) h2)
  refine ⟨fun pins s σ H E I ⟨⟨σ0, e⟩, e2, dd, vs, r, e3, e4, e5, e6⟩ => h3.run pins s σ H E I ⟨.ref a, ?_, rfl, e2, dd, vs, r, e3, e4, e5, e6⟩⟩
  have hl : σ.length = X.N.length := I.len
  have hn : i < X.N.length := (List.getElem?_eq_some_iff.mp hi).1
  subst e
  rw [List.length_set] at hl
  rw [List.getElem?_set_self (by omega)]
theorem sd_try_fld (i : Nat) (M : Value → List (Str × PyData) → En → Prop) (hs : X.stack = X.env :: X.outer) (hf : X.env.frame = some X.env.locals) (hN : X.N.Nodup) (hc1 : Names X w1 (.ref C1)) (tk : L2N.Takes X W)
    (xf : XfC X.K C1) (noF : PySem.W.findIn X.K (.ref C1) f = some none)
    (hb : ∀ (W : WX) (pn : List (Addr × Obj)) (xe : Value → Shared → Prop), L2N.Takes (X.tr pn xe) W → PassesOwn (model X.prog X.w) X.A X.env xe → BD (X.tr pn xe) W body ρ { D with ex := M })
    (hh : ∀ cls fs ρ', M cls fs ρ' → PySem.W.exmOne X.K cls (.ref C1) = some true ∧ cls = .ref C1 ∧ ∃ x, fs = [(f, x)] ∧ ∀ a, D.rt x (ρ'.set i (.v (.ref a))))
    (hi : X.N[i]? = some n := by rfl) (hln : X.env.kindOf n = some .local := by rfl) (hd : (n == ("__debug__" : Str)) = false := by decide) (hcd : (n == ("__classdict__" : Str)) = false := by decide)
    (hat : attributeBase (.Name n p1) f X.env (eval (.Name n p1) X.env) = eval (.Name n p1) X.env := by rfl) :
    SD X W (.Try body [.ExceptHandler (some (.Name w1 np)) (some n) [.Return (some (.Attribute (.Name n p1) f p2)) pos] pos'] [] [] pq) ρ D := by
  refine PS_imp (ps_try_asM hs hf hN hi hln tk (tb := fun W => tD X.K W ρ { D with ex := M }) (fun W pn xe t p => hb W pn xe t p) (.cons hc1 (fun a oe cls d pn hz hv => fld_suite i xf noF hi hln hd hcd a oe cls d pn hz hv hat) .nil)) fun E σ H ⟨C, F, se, cv⟩ => ⟨C, F, se, ?_⟩
  refine ⟨cv.nx, cv.rt, fun cls fs ρ' d F' H' σ' m s r => ?_, cv.bk, cv.ct, cv.rn, cv.rq, cv.rz⟩
  obtain ⟨h1, h2, x, rfl, h3⟩ := hh cls fs ρ' m
  refine ⟨true, h1, fun _ a na => ?_, fun z => nomatch z⟩
  cases d with
  | none => cases (show [(f, x)] = [] from r)
  | some dd =>
    obtain ⟨_, vs, e1, e2, e3⟩ := r
    obtain ⟨v, rfl, rv⟩ : ∃ v, vs = [(f, v)] ∧ Rp X.K F' v x := by
      match vs, e2, e3 with
      | [(g, v)], e2, e3 =>
        cases e2
        cases e3 with
        | cons r1 _ => exact ⟨v, rfl, r1⟩
    have s2 := s.setV i (.ref a)
    refine ⟨⟨σ', rfl⟩, h2, dd, _, v, rfl, e1, ?_, cv.rt _ _ _ F' H' _ (h3 a) s2 rv⟩
    show (match (f == f) with | true => some v | false => none) = _
    rw [beq_self_eq_true]
end
end G

/-! GPick: a list written of what is known by relations, one of it picked. -/
namespace G
open PySem PySem.Spec PyProof.Rows L2
section
variable {X : Cx} {W : WX} {e a b : Expr} {es : List Expr} {pos : Pos} {ρ ρ1 : En} {x : PyData} {S R : PyData → En → Prop}
theorem pp_ix (ha : PP X a ρ S) (hb : ∀ y r, S y r → ∃ xs i r' x, y = .list xs ∧ PD X b r (.int i) r' ∧ atI xs i = some x ∧ R x r') (hs : PlainIx b := by intro _ _; rfl) : PP X (.Subscript a b pos) ρ R := by
  refine PE_imp (pe_ix ix_list ha (PE_ex (t := fun (p : { p : PyData × En × Int × En // S p.1 p.2.1 ∧ PD X b p.2.1 (.int p.2.2.1) p.2.2.2 }) => tP X.K p.1.2.1 (.int p.1.2.2.1) p.1.2.2.2) fun p => p.2.2) hs) fun σ H Q ⟨C, F, se, q⟩ => ⟨C, F, se, fun v F1 H1 y r hS x1 e1 r1 => ?_⟩
  obtain ⟨xs, i, r', x, rfl, hp, hx, hR⟩ := hb y r hS
  refine ⟨⟨(.list xs, r, i, r'), hS, hp⟩, C, F1, e1, fun w F2 H2 x2 e2 r2 => ?_⟩
  cases r1 with
  | lst h1 h2 =>
    obtain ⟨u, h3, h4⟩ := atI_rp h2 hx
    exact ⟨_, _, i, u, rfl, rp_int r2, e2.fr.ext.l (x2.l h1), h3, q u F2 H2 x r' hR (x1.trans x2) e2 (h4.mono x2)⟩
theorem ar_imp {es : List Expr} {S S' : List PyData → En → Prop} (h : AR X es ρ S) (i : ∀ ys r, S ys r → S' ys r) : AR X es ρ S' := PA_imp h fun σ H Q ⟨C, F, se, q⟩ => ⟨C, F, se, fun vs F1 H1 ys r hS x1 e1 rr => q vs F1 H1 ys r (i ys r hS) x1 e1 rr⟩
end
end G

/-! GObj: instances: ghost slots (names that no scope has) hold what stands in an instance's fields; fields read as own dicts and lists. -/
namespace G
open PySem PySem.Spec PyProof.Rows L2
/-! ### ghost slots -/
theorem Inv.ghost {X : Cx} {pins : List (Addr × Obj)} {σ : L2.St} {H : Hp} {s : Shared} {i : Nat} {y : Str} (I : Inv X pins σ H s) (hi : X.N[i]? = some y) (hv : ¬ Vis X.env.scope y) (v : Option V) : Inv X pins (σ.set i v) H s := by
  obtain ⟨m, h1, h2⟩ := I.loc
  refine ⟨I.ok, I.os, I.bare, I.base, ⟨m, h1, fun j x w hx hw hvis => ?_⟩, I.cell, I.free, I.freeC, I.pin, I.hok, by rw [List.length_set]; exact I.len⟩
  by_cases q : j = i
  · subst q
    rw [hi] at hx
    cases hx
    exact absurd hvis hv
  · rw [List.getElem?_set_ne (Ne.symm q)] at hw
    exact h2 j x w hx hw hvis
section
variable {X : Cx} {W : WX} {e a b c o : Expr} {es : List Expr} {pos pos' p1 p2 p3 : Pos} {ρ ρ' ρ1 ρ2 ρ3 : En} {x y z : PyData} {xs ys : List PyData} {sts rest : List Stmt} {D : DE} {k : Bool} {i j n : Nat} {w f u : Str} {p q : Addr} {pa pb : Option Addr} {ct ct' c2 : Ct} {ob ob' : Option PyData} {y' : PyData}
theorem bd_ghost (i : Nat) (hi : X.N[i]? = some u) (hv : ¬ Vis X.env.scope u) (h : ∀ C F H σ, SE X.K C F H σ ρ → ∃ v, SE X.K C F H (σ.set i (some v)) ρ') (hb : BD X W sts ρ' D) : BD X W sts ρ D :=
  ⟨fun pins s σ H E I ⟨C, F, se, cv⟩ => by
    obtain ⟨v, se'⟩ := h C F H σ se
    exact hb.run pins s _ H E (Inv.ghost I hi hv _) ⟨C, F, se', cv⟩⟩
/-- e stands for what slot n holds -/
def PV (X : Cx) (o : Expr) (n : Nat) (ρ : En) : Prop := PE X o (fun σ H Q => (∃ C F, SE X.K C F H σ ρ) ∧ ∃ v, σ[n]? = some (some v) ∧ Q v H)
theorem pv_name (n : Nat) (hN : X.N[n]? = some w := by rfl) (hv : Vis X.env.scope w := by first | exact Or.inl rfl | exact Or.inr (Or.inl rfl) | exact Or.inr (Or.inr rfl)) (hd : (w == ("__debug__" : Str)) = false := by decide) (hcd : (w == ("__classdict__" : Str)) = false := by decide) : PV X (.Name w pos) n ρ :=
  PE_imp (pe_var hN hv hd hcd) fun σ H Q ⟨_, h⟩ => h
/-- x.f, x an instance of the body's own, what stands in f told by slot n -/
theorem pv_fld {Cl : Addr} {fs : List (Str × V)} (i n : Nat) (cl : Cls X.K Cl) (na : NoAttr X.K Cl f) (hi : ρ[i]? = some (.o pa (.n Cl fs))) (hf : fs.lookup f = some (.ref p)) (hn : ρ[n]? = some (.o pb (.g p ct)))
    (hN : X.N[i]? = some w := by rfl) (hv : Vis X.env.scope w := by first | exact Or.inl rfl | exact Or.inr (Or.inl rfl) | exact Or.inr (Or.inr rfl)) (hd : (w == ("__debug__" : Str)) = false := by decide) (hcd : (w == ("__classdict__" : Str)) = false := by decide)
    (hb : attributeBase (.Name w p1) f X.env (eval (.Name w p1) X.env) = eval (.Name w p1) X.env := by rfl) : PV X (.Attribute (.Name w p1) f p2) n ρ :=
  PE_imp (pe_fld (pe_var hN hv hd hcd) hb) fun σ H Q ⟨⟨C, F, se⟩, v, hσ, q⟩ => by
    obtain ⟨l, a1, _, ⟨dx, hl⟩, _⟩ := se.getO hi
    obtain ⟨l2, b1, _, ⟨e2, _⟩, _⟩ := se.getO hn
    subst e2
    rw [b1] at hσ
    cases hσ
    exact ⟨.ref l, a1, l, Cl, dx, fs, _, rfl, hl, cl, na, hf, q⟩
/-! ### own dicts and lists -/
theorem pd_fget (n : Nat) (hu : X.A.units + 65 < cLine) (ho : PV X o n ρ) (h0 : ρ[n]? = some (.o pa ct)) (hb : PD X b ρ y ρ1) (h1 : ρ1[n]? = some (.o pb ct')) (dk : DK ct' y (some x))
    (hs : NoSl b := by intro _ _; rfl) : PD X (.Subscript o b pos) ρ x ρ1 :=
  PE_imp (pe_dget (by omega) ho hb hs) fun σ H Q ⟨C, F, se, qq⟩ => by
    obtain ⟨l, a1, _, _, _⟩ := se.getO h0
    refine ⟨⟨C, F, se⟩, .ref l, a1, C, F, se, fun v F1 H1 x1 e1 r1 => ?_⟩
    obtain ⟨l', b1, _, b2, _⟩ := e1.getO h1
    rw [a1] at b1
    cases b1
    obtain ⟨ov, g1, g2, _⟩ := dk.get e1.fr.ext b2 r1
    obtain ⟨u, rfl, g3⟩ := g2 x rfl
    exact ⟨l, u, rfl, g1, qq u F1 H1 x1 e1 g3⟩
theorem pd_fget2 (n : Nat) (hu : X.A.units + 65 < cLine) (ho : PV X o n ρ) (h0 : ρ[n]? = some (.o pa ct)) (ha : PD X a ρ y ρ1) (hb : PD X b ρ1 z ρ2) (h1 : ρ2[n]? = some (.o pb ct')) (dk : DK ct' y ob) (dk0 : DK ct y' ob')
    (m : M2 X o "get" p2 a b pos := by exact ⟨rfl, rfl, rfl, rfl⟩) : PD X (.Call (.Attribute o "get" p2) [a, b] [] pos) ρ (ob.getD z) ρ2 :=
  PE_imp (pe_dget2 (by omega) ho ha hb m) fun σ H Q ⟨C, F, se, qq⟩ => by
    obtain ⟨l, a1, _, a2, _⟩ := se.getO h0
    refine ⟨⟨C, F, se⟩, .ref l, a1, l, rfl, dk0.isD a2, C, F, se, fun v F1 H1 x1 e1 r1 => ⟨C, F1, e1, fun u F2 H2 x2 e2 r2 => ?_⟩⟩
    obtain ⟨l', b1, _, b2, _⟩ := e2.getO h1
    rw [a1] at b1
    cases b1
    obtain ⟨ov, g1, g2, g3⟩ := dk.get e2.fr.ext b2 (r1.mono x2)
    refine ⟨ov, g1, ?_⟩
    cases ob with
    | none => rw [g3 rfl]; exact qq u F2 H2 (x1.trans x2) e2 r2
    | some x =>
      obtain ⟨t, rfl, g4⟩ := g2 x rfl
      exact qq t F2 H2 (x1.trans x2) e2 g4
theorem pd_fin (n : Nat) (hu : X.A.units + 65 < cLine) (ha : PD X a ρ y ρ1) (ho : PV X o n ρ1) (h1 : ρ1[n]? = some (.o pb ct)) (dk : DK ct y ob) (hm : behindInMarks .In o = false := by rfl) : PD X (.Compare a [.In] [o] pos) ρ (.bool ob.isSome) ρ1 :=
  PE_imp (pe_cmp (pc_din (by omega) ha ho) hm) fun σ H Q ⟨C, F, se, qq⟩ => ⟨C, F, se, fun v F1 H1 x1 e1 r1 => by
    obtain ⟨l, b1, _, b2, _⟩ := e1.getO h1
    obtain ⟨ov, g1, g2, g3⟩ := dk.get e1.fr.ext b2 r1
    exact ⟨⟨C, F1, e1⟩, .ref l, b1, l, ov, rfl, g1, qq _ F1 H1 x1 e1 (by rw [iss_of g2 g3]; exact .bl _)⟩⟩
theorem pd_fnot (n : Nat) (hu : X.A.units + 65 < cLine) (ha : PD X a ρ y ρ1) (ho : PV X o n ρ1) (h1 : ρ1[n]? = some (.o pb ct)) (dk : DK ct y ob) (hm : behindInMarks .NotIn o = false := by rfl) : PD X (.Compare a [.NotIn] [o] pos) ρ (.bool (!ob.isSome)) ρ1 :=
  PE_imp (pe_cmp (pc_dnotin (by omega) ha ho) hm) fun σ H Q ⟨C, F, se, qq⟩ => ⟨C, F, se, fun v F1 H1 x1 e1 r1 => by
    obtain ⟨l, b1, _, b2, _⟩ := e1.getO h1
    obtain ⟨ov, g1, g2, g3⟩ := dk.get e1.fr.ext b2 r1
    exact ⟨⟨C, F1, e1⟩, .ref l, b1, l, ov, rfl, g1, qq _ F1 H1 x1 e1 (by rw [iss_of g2 g3]; exact .bl _)⟩⟩
theorem sd_fput (n : Nat) (hu : X.A.units + 65 < cLine) (he : PD X e ρ x ρ1) (ho : PV X o n ρ1) (h0 : ρ1[n]? = some (.o pa ct)) (hk : PD X b ρ1 y ρ2) (h1 : ρ2[n]? = some (.o pb ct')) (dp : DP ct' y x c2) (h : D.nx (ρ2.set n (.o pb c2)))
    (hs : swapsWith e (some (.Subscript o b p2)) pos.line X.env = pure false := by rfl) : SD X W (.Assign [.Subscript o b p2] e pos) ρ D :=
  PS_imp (ps_dput (by omega) ho hk he hs) fun E σ H ⟨C, F, se, cv⟩ => ⟨C, F, se, fun v F1 H1 x1 e1 r1 => by
    obtain ⟨l, a1, _, _, _⟩ := e1.getO h0
    refine ⟨⟨C, F1, e1⟩, .ref l, a1, C, F1, e1, fun u F2 H2 x2 e2 r2 => ?_⟩
    obtain ⟨l', b1, _, b2, _⟩ := e2.getO h1
    rw [a1] at b1
    cases b1
    obtain ⟨oo, g1, g2⟩ := dp.put e2.fr.ext b2 r2 (r1.mono x2)
    exact ⟨l, _, rfl, g1, cv.nx _ F2 _ _ h (e2.wr h1 a1 g2)⟩⟩
/-- what is known of the slot: an own list -/
inductive LK : Ct → List PyData → Prop
  | l {xs : List PyData} : LK (.l xs) xs
  | g {p : Addr} {c : Ct} {xs : List PyData} : LK c xs → LK (.g p c) xs
/-- how it is when other things stand in the list -/
def lput : Ct → List PyData → Ct
  | .g p c, xs => .g p (lput c xs)
  | _, xs => .l xs
theorem LK.lst {K : PySem.W.Frag} {F H : Hp} {l : Addr} {c : Ct} (lk : LK c xs) (h : Own1 K F H l c) : ∃ vs, H l = some (.lst vs) ∧ RpA K F vs xs := by
  induction lk with
  | l => exact h
  | g _ ih => exact ih h.2
theorem LK.put {K : PySem.W.Frag} {F H : Hp} {l : Addr} {c : Ct} {us : List V} (lk : LK c xs) (h : Own1 K F H l c) (r : RpA K F us ys) : Own1 K F (upd H l (.lst us)) l (lput c ys) := by
  induction lk with
  | l => exact ⟨us, upd_same, r⟩
  | g _ ih => exact ⟨h.1, ih h.2⟩
/-- an own list is read: its source is the slot -/
theorem sd_fapp (n : Nat) {p3 : Pos} (ho : PV X o n ρ) (h0 : ρ[n]? = some (.o pa ct)) (lk0 : LK ct ys) (he : PD X e ρ x ρ1) (h1 : ρ1[n]? = some (.o pb ct')) (lk : LK ct' xs) (hl : xs.length < 100000) (h : D.nx (ρ1.set n (.o pb (lput ct' (xs ++ [x])))))
    (hbase : attributeBase o "append" X.env (eval o X.env) = eval o X.env := by rfl)
    (hfew : ((backTo p3 (starEach [e] X.env)).all (fun x => !x.1) && (backToKw p3 (keywordEach [] X.env)).all (fun x => x.1.isSome)
      && decide ([e].length + ([] : List Keyword).length + (if ([] : List Keyword).isEmpty then 0 else 1) < 30)) = true := by rfl)
    (hline : (p2.endLine == p3.line) = true := by rfl) (hs : starEach [e] X.env = (false, eval e X.env) :: starEach [] X.env := by rfl)
    (hsw : swapsWith (.Call (.Attribute o "append" p2) [e] [] p3) none pos.line X.env = pure false := by rfl) :
    SD X W (.Expr (.Call (.Attribute o "append" p2) [e] [] p3) pos) ρ D := by
  refine PS_imp (ps_expr (pe_bm PySem.F.plainAttrs_list PySem.F.slot_list_append PySem.F.type_list_append mt_append ho (pa_cons he pa_nil hs) hbase hfew hline hs (by rfl)) hsw) fun E σ H ⟨C, F, se, cv⟩ => ?_
  obtain ⟨l, a1, _, a2, a4⟩ := se.getO h0
  obtain ⟨vs, a2, a3⟩ := lk0.lst a2
  refine ⟨⟨C, F, se⟩, .ref l, a1, .inl ⟨rfl, vs, SqL.of a2⟩, C, F, se, fun v F1 H1 x1 e1 r1 => ?_⟩
  obtain ⟨l', b1, _, b2, b4⟩ := e1.getO h1
  rw [a1] at b1
  cases b1
  obtain ⟨us, c2, c3⟩ := lk.lst b2
  refine ⟨l, us, v, rfl, rfl, c2, by rw [c3.length]; exact line_lt hl, cv.nx _ F1 _ _ h ?_⟩
  exact e1.wr h1 a1 (lk.put b2 (c3.append (.cons r1 .nil)))
end
end G

/-! GOs: the promise of a def that is handed own objects (instances with what stands in their fields, dicts, lists); its body. -/
namespace G
open PySem PySem.Spec PyProof.Rows L2
/-- objects that a def may change -/
structure Os (K : PySem.W.Frag) (F H : Hp) (qs : List Addr) (cs : List Ct) : Prop where
  lc : cs.length = qs.length
  nd : qs.Nodup
  own : ∀ (k : Nat) (p : Addr) (c : Ct), qs[k]? = some p → cs[k]? = some c → F p = none ∧ Own1 K F H p c
/-- growth, but for the objects at M -/
structure GrM (M : List Addr) (F H F' H' : Hp) : Prop where
  f : Ex F F'
  h : ∀ a o, a ∉ M → H a = some o → H' a = some o
  fh : Ex F' H'
  new : ∀ a, H a ≠ none → F a = none → Nt F' a
  al : ∀ a ∈ M, H' a ≠ none
def setSl : List Nat → List Sl → En → En
  | [], _, ρ => ρ
  | _ :: _, [], ρ => ρ
  | g :: gs, s :: ss, ρ => setSl gs ss (ρ.set g s)
def setSt : List Nat → List (Option V) → L2.St → L2.St
  | [], _, σ => σ
  | _ :: _, [], σ => σ
  | g :: gs, s :: ss, σ => setSt gs ss (σ.set g s)
def owns : List (Option Addr) → List Ct → List Sl
  | [], _ => []
  | _ :: _, [] => []
  | b :: bs, c :: cs => .o b c :: owns bs cs
section
variable {K : PySem.W.Frag} {C : Cn} {F H F' H' : Hp} {σ : L2.St} {ρ : En}
theorem setSl_len : ∀ (gs : List Nat) (ss : List Sl) (ρ : En), (setSl gs ss ρ).length = ρ.length
  | [], _, _ => rfl
  | _ :: _, [], _ => rfl
  | g :: gs, s :: ss, ρ => by rw [setSl, setSl_len gs ss, List.length_set]
theorem setSl_out : ∀ (gs : List Nat) (ss : List Sl) (ρ : En) (j : Nat), j ∉ gs → (setSl gs ss ρ)[j]? = ρ[j]?
  | [], _, _, _, _ => rfl
  | _ :: _, [], _, _, _ => rfl
  | g :: gs, s :: ss, ρ, j, h => by
    rw [setSl, setSl_out gs ss _ j (fun z => h (List.mem_cons_of_mem _ z)), List.getElem?_set_ne (fun z => h (by rw [← z]; exact List.mem_cons_self ..))]
theorem setSl_at : ∀ (gs : List Nat) (ss : List Sl) (ρ : En) (k g : Nat) (s : Sl), gs.Nodup → gs[k]? = some g → ss[k]? = some s → g < ρ.length → (setSl gs ss ρ)[g]? = some s
  | [], _, _, _, _, _, _, h, _, _ => by simp at h
  | _ :: _, [], _, _, _, _, _, _, h, _ => by simp at h
  | g :: gs, s :: ss, ρ, 0, g', s', nd, h1, h2, hl => by
    cases h1; cases h2
    rw [setSl, setSl_out gs ss _ g (List.nodup_cons.mp nd).1, List.getElem?_set_self hl]
  | g :: gs, s :: ss, ρ, k + 1, g', s', nd, h1, h2, hl => by
    rw [setSl]
    exact setSl_at gs ss _ k g' s' (List.nodup_cons.mp nd).2 (by simpa using h1) (by simpa using h2) (by rw [List.length_set]; exact hl)
theorem setSt_same : ∀ (gs : List Nat) (ps : List Addr) (σ : L2.St), (∀ (k g : Nat) (p : Addr), gs[k]? = some g → ps[k]? = some p → σ[g]? = some (some (.ref p))) → setSt gs (ps.map fun p => some (.ref p)) σ = σ
  | [], _, _, _ => rfl
  | _ :: _, [], _, _ => rfl
  | g :: gs, p :: ps, σ, h => by
    have e : σ.set g (some (.ref p)) = σ := by
      have q := h 0 g p rfl rfl
      obtain ⟨hl, hv⟩ := List.getElem?_eq_some_iff.mp q
      rw [← hv]; exact List.set_getElem_self hl
    show setSt gs (ps.map fun p => some (.ref p)) (σ.set g (some (.ref p))) = σ
    rw [e]
    exact setSt_same gs ps σ fun k g' p' h1 h2 => h (k + 1) g' p' (by simpa using h1) (by simpa using h2)
theorem owns_at : ∀ (bs : List (Option Addr)) (cs : List Ct) (k : Nat) (b : Option Addr) (c : Ct), bs[k]? = some b → cs[k]? = some c → (owns bs cs)[k]? = some (.o b c)
  | [], _, _, _, _, h, _ => by simp at h
  | _ :: _, [], _, _, _, _, h => by simp at h
  | b :: bs, c :: cs, 0, _, _, h1, h2 => by cases h1; cases h2; rfl
  | b :: bs, c :: cs, k + 1, _, _, h1, h2 => owns_at bs cs k _ _ (by simpa using h1) (by simpa using h2)
theorem SE.base {M : List Addr} (e : Ex F H) (hl : σ.length = ρ.length) (ok : ∀ (i : Nat) (s : Sl), ρ[i]? = some s → SlOk K F H (σ[i]?.join) s) (no : ∀ (i : Nat) (s : Sl), ρ[i]? = some s → s.isOwn = false) (hM : ∀ a ∈ M, H a ≠ none) : SE K ⟨F, H, M⟩ F H σ ρ := by
  have nw : ∀ i a, ¬ Owns σ ρ i a := fun i a ⟨_, s, h2, h3⟩ => by rw [no i s h2] at h3; cases h3
  exact ⟨⟨e, .refl _, fun _ _ h _ => h, fun _ h => h, fun _ _ z => .inl z, hM⟩, hl, ok, fun i j a hi => absurd hi (nw i a), fun i a hi => absurd hi (nw i a), fun i a c h1 h2 => absurd ⟨h2, _, h1, rfl⟩ (nw i a)⟩
/-- slots given own objects -/
theorem SE.setG : ∀ (gs : List Nat) (bs : List (Option Addr)) (ps : List Addr) (cs : List Ct) {σ : L2.St} {ρ : En}, SE K C F H σ ρ → gs.length = ps.length → bs.length = ps.length → cs.length = ps.length → gs.Nodup → ps.Nodup →
    (∀ g ∈ gs, ∀ a, ¬ Owns σ ρ g a) → (∀ p ∈ ps, ∀ j, ¬ Owns σ ρ j p) → (∀ (k : Nat) (p : Addr) (c : Ct) (b : Option Addr), ps[k]? = some p → cs[k]? = some c → bs[k]? = some b → F p = none ∧ Own1 K F H p c ∧ (C.H0 p = none ∨ p ∈ C.M) ∧ (b = none ∨ b = some p) ∧ (b = none → C.H0 p = none)) →
    SE K C F H (setSt gs (ps.map fun p => some (.ref p)) σ) (setSl gs (owns bs cs) ρ) := by
  intro gs
  induction gs with
  | nil => intro bs ps cs σ ρ e _ _ _ _ _ _ _ _; exact e
  | cons g gs ih =>
    intro bs ps cs σ ρ e h1 h2 h3 ng np og op ok
    match bs, ps, cs, h1, h2, h3, np, op, ok with
    | [], [], _, h1, _, _, _, _, _ => cases h1
    | _ :: _, [], _, h1, _, _, _, _, _ => cases h1
    | [], _ :: _, _, _, h2, _, _, _, _ => cases h2
    | _ :: _, _ :: _, [], _, _, h3, _, _, _ => cases h3
    | b :: bs, p :: ps, c :: cs, h1, h2, h3, np, op, ok =>
      obtain ⟨k1, k2, k3, k4, k5⟩ := ok 0 p c b rfl rfl rfl
      have e2 := e.set (i := g) (v := .ref p) (s := .o b c) ⟨p, rfl, k4, k2⟩ (fun _ a ha => by
        cases ha
        exact ⟨k1, k2.some, k3, fun j _ => op p (List.mem_cons_self ..) j, fun c' hc => k5 (by cases hc; rfl)⟩)
      have conv : ∀ j a, Owns (σ.set g (some (.ref p))) (ρ.set g (.o b c)) j a → (j = g ∧ a = p) ∨ Owns σ ρ j a := fun j a hj => by
        rcases own_set hj with ⟨q1, q2, _⟩ | ⟨_, q⟩
        · cases q2; exact .inl ⟨q1, rfl⟩
        · exact .inr q
      have ng2 := List.nodup_cons.mp ng
      have np2 := List.nodup_cons.mp np
      refine ih bs ps cs e2 (by simpa using h1) (by simpa using h2) (by simpa using h3) ng2.2 np2.2 (fun g' hg a ha => ?_) (fun p' hp j hj => ?_) (fun k p' c' b' q1 q2 q3 => ok (k + 1) p' c' b' (by simpa using q1) (by simpa using q2) (by simpa using q3))
      · rcases conv g' a ha with ⟨q, _⟩ | q
        · rw [q] at hg; exact ng2.1 hg
        · exact og g' (List.mem_cons_of_mem _ hg) a q
      · rcases conv j p' hj with ⟨_, q⟩ | q
        · rw [q] at hp; exact np2.1 hp
        · exact op p' (List.mem_cons_of_mem _ hp) j q
/-- what no slot owns may be changed -/
theorem SE.growM {M : List Addr} (e : SE K C F H σ ρ) (g : GrM M F H F' H') (no : ∀ a ∈ M, ∀ j, ¬ Owns σ ρ j a) (hM : ∀ a ∈ M, C.H0 a = none ∨ a ∈ C.M) : SE K C F' H' σ ρ := by
  have back : ∀ a, H' a = none → H a = none := fun a ha => by
    by_cases q : a ∈ M
    · exact absurd ha (g.al a q)
    · cases z : H a with
      | none => rfl
      | some o => rw [g.h a o q z] at ha; cases ha
  refine ⟨⟨g.fh, e.fr.f0.trans g.f, fun a u hu m => ?_, fun a ha => e.fr.there a (back a ha), fun a ha z => (e.fr.new a ha z).mono g.f (g.new a (fun q => ha (e.fr.there a q))), e.fr.mM⟩, e.len, fun i s h => ?_, e.sep, fun i a h => ?_, e.fresh⟩
  · refine g.h a u (fun q => ?_) (e.fr.h0 a u hu m)
    rcases hM a q with z | z
    · rw [z] at hu; cases hu
    · exact m z
  · exact (e.ok i s h).grow g.f fun l u hl ho hu => g.h l u (fun q => no l q i ⟨join_some hl, s, h, ho⟩) hu
  · obtain ⟨x, y, z⟩ := e.own i a h
    have hn : a ∉ M := fun q => no a q i h
    obtain ⟨o, ho⟩ := some_of y
    exact ⟨(g.new a y x).none g.fh (fun xs q => e.nt h xs (by rw [g.h a o hn ho] at q; rw [ho, q])), fun q => y (back a q), z⟩
theorem GrM.ofFr {M : List Addr} {F H F' H' : Hp} (f : Fr ⟨F, H, M⟩ F' H') (al : ∀ a ∈ M, H' a ≠ none) : GrM M F H F' H' := ⟨f.f0, fun a o q h => f.h0 a o h q, f.ext, f.new, al⟩
theorem Os.al {qs : List Addr} {cs : List Ct} (o : Os K F H qs cs) : ∀ b ∈ qs, H b ≠ none := fun b hb => by
  obtain ⟨k, hk, e⟩ := List.getElem_of_mem hb
  subst e
  exact (o.own k _ _ (List.getElem?_eq_getElem hk) (List.getElem?_eq_getElem (show k < cs.length by rw [o.lc]; exact hk))).2.some
end
/-! ### arguments -/
inductive Ar where
  | d (x : PyData)
  | o (k : Nat)
def Ar.sl : Ar → Sl
  | .d x => .d x
  | .o _ => .un
def ArV (K : PySem.W.Frag) (F : Hp) (qs : List Addr) (v : V) : Ar → Prop
  | .d x => Rp K F v x
  | .o k => ∃ q, qs[k]? = some q ∧ v = .ref q
inductive ArVs (K : PySem.W.Frag) (F : Hp) (qs : List Addr) : List V → List Ar → Prop
  | nil : ArVs K F qs [] []
  | cons {v : V} {vs : List V} {a : Ar} {as : List Ar} : ArV K F qs v a → ArVs K F qs vs as → ArVs K F qs (v :: vs) (a :: as)
theorem ArVs.len {K : PySem.W.Frag} {F : Hp} {qs : List Addr} : ∀ {vs : List V} {as : List Ar}, ArVs K F qs vs as → vs.length = as.length
  | _, _, .nil => rfl
  | _, _, .cons _ r => by rw [List.length_cons, List.length_cons, r.len]
theorem ArVs.get {K : PySem.W.Frag} {F : Hp} {qs : List Addr} : ∀ {vs : List V} {as : List Ar} {i : Nat} {a : Ar}, ArVs K F qs vs as → as[i]? = some a → ∃ v, vs[i]? = some v ∧ ArV K F qs v a
  | _, _, _, _, .nil, e => by simp at e
  | _, _, 0, _, .cons h _, e => by simp at e; subst e; exact ⟨_, rfl, h⟩
  | _, _, i + 1, _, .cons _ r, e => by
    obtain ⟨v, h1, h2⟩ := ArVs.get (i := i) r (by simpa using e)
    exact ⟨v, by simpa using h1, h2⟩
/-- a promise over own objects -/
def RetG (K : PySem.W.Frag) (F H : Hp) (qs : List Addr) (cs' : List Ct) (Q : VK) (E : XK) : Res → Prop
  | .ret y => ∀ v F' H', GrM qs F H F' H' → Os K F' H' qs cs' → Rp K F' v y → Q v H'
  | .own c => ∀ p F' H', GrM qs F H F' H' → Os K F' H' qs cs' → H p = none → F' p = none → Own1 K F' H' p c → Q (.ref p) H'
  | .own2 _ _ => False
  | .exc cls fs => ∀ d F' H', GrM qs F H F' H' → Os K F' H' qs cs' → ExRep K F' H' d fs → E cls d H'
  | .raw P => ∀ v F' H', GrM qs F H F' H' → Os K F' H' qs cs' → P H F' H' v → Q v H'
def spG (K : PySem.W.Frag) (S : List Ar → List Addr → List Ct → Res → List Ct → Prop) : Sp := fun vs H Q E => ∃ F ar qs cs r cs', Ex F H ∧ Os K F H qs cs ∧ ArVs K F qs vs ar ∧ S ar qs cs r cs' ∧ RetG K F H qs cs' Q E r
/-- what is known at such a def's end -/
def EndG : List Nat → List Addr → List Ct → En → Prop
  | [], [], [], _ => True
  | g :: gs, q :: qs, c :: cs, ρ => ρ[g]? = some (.o (some q) c) ∧ EndG gs qs cs ρ
  | _, _, _, _ => False
def DofG (gs : List Nat) (qs : List Addr) (cs' : List Ct) : Res → DE
  | .ret y => { rt := fun x ρ => x = y ∧ EndG gs qs cs' ρ, nx := fun ρ => y = .none ∧ EndG gs qs cs' ρ }
  | .own c => { rn := fun c' ρ => c' = c ∧ EndG gs qs cs' ρ }
  | .own2 _ _ => {}
  | .exc cls fs => { ex := fun c' fs' ρ => (c' = cls ∧ fs' = fs) ∧ EndG gs qs cs' ρ }
  | .raw P => { rz := fun P' ρ => P' = P ∧ EndG gs qs cs' ρ }
/-- the parameters that hold own objects are where the slots gs say -/
def arOk (gs : List Nat) : Nat → List Ar → Bool
  | _, [] => true
  | j, .d _ :: r => arOk gs (j + 1) r
  | j, .o k :: r => gs[k]? == some j && arOk gs (j + 1) r
def gsOk (n : Nat) (ar : List Ar) : Nat → List Nat → Bool
  | _, [] => true
  | k, g :: gs => (decide (n ≤ g) || (match ar[g]? with | some (.o k') => k' == k | _ => false)) && gsOk n ar (k + 1) gs
theorem gsOk_get {n : Nat} {ar : List Ar} : ∀ {gs : List Nat} {k0 k g : Nat}, gsOk n ar k0 gs = true → gs[k]? = some g → n ≤ g ∨ ar[g]? = some (.o (k0 + k))
  | [], _, _, _, _, h => by simp at h
  | g0 :: gs, k0, 0, g, h, e => by
    simp at e; subst e
    have h1 := (Bool.and_eq_true_iff.mp h).1
    rcases Bool.or_eq_true_iff.mp h1 with z | z
    · exact .inl (of_decide_eq_true z)
    · right
      revert z
      cases ar[g0]? with
      | none => intro z; cases z
      | some a =>
        cases a with
        | d x => intro z; cases z
        | o k' => intro z; rw [Nat.add_zero, beq_iff_eq.mp z]
  | g0 :: gs, k0, k + 1, g, h, e => by
    have := gsOk_get (k0 := k0 + 1) (k := k) (Bool.and_eq_true_iff.mp h).2 (by simpa using e)
    rw [show k0 + (k + 1) = k0 + 1 + k by omega]
    exact this
theorem endG_get : ∀ {gs : List Nat} {qs : List Addr} {cs : List Ct} {ρ : En}, EndG gs qs cs ρ → gs.length = qs.length ∧ cs.length = qs.length ∧ ∀ (k : Nat) (q : Addr) (c : Ct), qs[k]? = some q → cs[k]? = some c → ∃ g, gs[k]? = some g ∧ ρ[g]? = some (.o (some q) c)
  | [], [], [], _, _ => ⟨rfl, rfl, fun k q c h => by simp at h⟩
  | g :: gs, q :: qs, c :: cs, ρ, h => by
    obtain ⟨h1, h2, h3⟩ := endG_get h.2
    refine ⟨by simpa using h1, by simpa using h2, fun k q' c' e1 e2 => ?_⟩
    cases k with
    | zero => cases e1; cases e2; exact ⟨g, rfl, h.1⟩
    | succ k => exact h3 k q' c' (by simpa using e1) (by simpa using e2)
  | [], [], _ :: _, _, h => h.elim
  | [], _ :: _, _, _, h => h.elim
  | _ :: _, [], _, _, h => h.elim
  | _ :: _, _ :: _, [], _, h => h.elim
section
variable {P : Program} {w : World} {K : PySem.W.Frag} {mg : Str → Option Value} {base : Heap} {x qual : Str} {f : Addr} {fd : FuncData} {N prs : List Str} {k : Nat} {C : Cn} {F H : Hp} {σ : L2.St} {ρ : En}
theorem os_of {gs : List Nat} {qs : List Addr} {cs : List Ct} (s : SE K C F H σ ρ) (h : EndG gs qs cs ρ) (nd : qs.Nodup) : Os K F H qs cs := by
  obtain ⟨_, h2, h3⟩ := endG_get h
  refine ⟨h2, nd, fun k p c hp hc => ?_⟩
  obtain ⟨g, _, hr⟩ := h3 k p c hp hc
  obtain ⟨l, a1, a2, a3, a4⟩ := s.getO hr
  have el : l = p := by
    rcases a2 with z | z
    · cases z
    · exact (Option.some.inj z).symm
  subst el
  exact ⟨(s.own _ _ a4).1, a3⟩
theorem ghostL {X : Cx} {pins : List (Addr × Obj)} {H : Hp} {s : Shared} : ∀ (gs : List Nat) (vs : List (Option V)) {σ : L2.St}, L2.Inv X pins σ H s → gs.Nodup → (∀ (k g : Nat) (v : Option V), gs[k]? = some g → vs[k]? = some v → σ[g]? = some v ∨ ∃ y, X.N[g]? = some y ∧ ¬ Vis X.env.scope y) → L2.Inv X pins (setSt gs vs σ) H s
  | [], _, _, I, _, _ => I
  | _ :: _, [], _, I, _, _ => I
  | g :: gs, v :: vs, σ, I, nd, h => by
    have nd2 := List.nodup_cons.mp nd
    have I2 : L2.Inv X pins (σ.set g v) H s := by
      rcases h 0 g v rfl rfl with z | ⟨y, h1, h2⟩
      · obtain ⟨hl, hv⟩ := List.getElem?_eq_some_iff.mp z
        rw [← hv, List.set_getElem_self hl]
        exact I
      · exact Inv.ghost I h1 h2 v
    refine ghostL gs vs I2 nd2.2 fun k g' v' h1 h2 => ?_
    rcases h (k + 1) g' v' (by simpa using h1) (by simpa using h2) with z | z
    · left
      rw [List.getElem?_set_ne (fun e => nd2.1 (by rw [e]; exact List.mem_of_getElem? h1))]
      exact z
    · exact .inr z
theorem fn_G {params : Arguments} {body : List Stmt} {scope : Scope} {dvs : List V} {kws : List (Str × V)} {S : List Ar → List Addr → List Ct → Res → List Ct → Prop} (gs : List Nat) (Fn : FunD K x qual params body scope dvs kws f fd) (Sc : FnScope N prs scope) (hN : prs.length ≤ N.length)
    (hS : ∀ ar qs cs r cs', S ar qs cs r cs' → ar.length = prs.length ∧ gs.length = qs.length ∧ gsOk prs.length ar 0 gs = true)
    (hg : ∀ g ∈ gs, prs.length ≤ g → ∃ y, N[g]? = some y ∧ ¬ Vis scope y) (hgn : gs.Nodup)
    (hb : ∀ (cdv : Value) (A : Around) (outer : List Env) (s : Shared) (H : Hp) (E : XK), Room k (A.deeper (envOfC qual scope s.heap.objs.size f cdv)) → ∀ ar qs cs r cs', S ar qs cs r cs' →
      BD (cxOf (L2N.CX P w) P w K mg base N qual scope f cdv A outer s H E) (WB E) body (setSl gs (owns (qs.map some) cs) (pad N.length (ar.map Ar.sl))) (DofG gs qs cs' r)) :
    FnOk P w K mg base (L2N.CX P w) (k + 1) f fd prs (spG K S) := by
  refine Fn.ok Sc (fun vs H Q E ⟨F, ar, qs, cs, r, cs', _, _, rv, s, _⟩ => by rw [rv.len]; exact (hS _ _ _ _ _ s).1) fun cdv A outer s H vs Q E hr ⟨F, ar, qs, cs, r, cs', ex, io, rv, sr, rd⟩ => ?_
  have hb' := hb cdv A outer s H E hr ar qs cs r cs' sr
  obtain ⟨hl1, hgl, hgo⟩ := hS _ _ _ _ _ sr
  have hl : vs.length ≤ N.length := by rw [rv.len, hl1]; exact hN
  have at0 : ∀ (k g : Nat) (q : Addr), gs[k]? = some g → qs[k]? = some q → (L2.start N vs)[g]? = some (some (.ref q)) ∨ ∃ y, N[g]? = some y ∧ ¬ Vis scope y := fun k g q h1 h2 => by
    rcases gsOk_get hgo h1 with z | z
    · exact .inr (hg g (List.mem_of_getElem? h1) z)
    · obtain ⟨v, v1, q', v2, v3⟩ := rv.get z
      rw [Nat.zero_add, h2] at v2
      cases v2
      left
      apply join_some
      rw [start_get, v1, v3]
  refine ⟨fun D σ Hx => tD K (WB E) (setSl gs (owns (qs.map some) cs) (pad N.length (ar.map Ar.sl))) (DofG gs qs cs' r) D (setSt gs (qs.map fun p => some (.ref p)) σ) Hx ∧ σ = L2.start N vs,
    ⟨fun pins s' σ Hx D I ⟨h, hσ⟩ => hb'.run pins s' _ Hx D (ghostL gs _ I hgn fun k g v h1 h2 => ?_) h⟩, ⟨⟨F, H, qs⟩, F, ?_, ?_⟩, rfl⟩
  · subst hσ
    rw [List.getElem?_map] at h2
    cases hq : qs[k]? with
    | none => rw [hq] at h2; cases h2
    | some q => rw [hq] at h2; cases h2; exact at0 k g q h1 hq
  · have e0 : SE K ⟨F, H, qs⟩ F H (L2.start N vs) (pad N.length (ar.map Ar.sl)) := by
      refine SE.base ex (by rw [start_len hl, pad_len (by rw [List.length_map, ← rv.len]; exact hl)]) (fun i s h => ?_) (fun i s h => ?_) io.al
      · rw [start_get]
        rcases pad_get h with z | z
        · rw [List.getElem?_map] at z
          cases q : ar[i]? with
          | none => rw [q] at z; cases z
          | some a =>
            rw [q] at z; cases z
            cases a with
            | d x =>
              obtain ⟨v, h1, h2⟩ := rv.get q
              exact ⟨v, h1, h2⟩
            | o k => trivial
        · subst z; trivial
      · rcases pad_get h with z | z
        · rw [List.getElem?_map] at z
          cases q : ar[i]? with
          | none => rw [q] at z; cases z
          | some a => rw [q] at z; cases z; cases a <;> rfl
        · subst z; rfl
    have no0 : ∀ i b, ¬ Owns (L2.start N vs) (pad N.length (ar.map Ar.sl)) i b := fun i b ⟨_, s, h2, h3⟩ => by
      rcases pad_get h2 with z | z
      · rw [List.getElem?_map] at z
        cases q : ar[i]? with
        | none => rw [q] at z; cases z
        | some a => rw [q] at z; cases z; cases a <;> cases h3
      · subst z; cases h3
    refine e0.setG gs (qs.map some) qs cs hgl (by rw [List.length_map]) io.lc hgn io.nd (fun g _ b => no0 g b) (fun p _ j => no0 j p) (fun k p c b hp hc hb => ?_)
    obtain ⟨q1, q2⟩ := io.own k p c hp hc
    rw [List.getElem?_map, hp] at hb
    cases hb
    exact ⟨q1, q2, .inr (List.mem_of_getElem? hp), .inr rfl, fun z => nomatch z⟩
  · have fin : ∀ {F' H' : Hp} {σ' : L2.St} {ρ' : En}, SE K ⟨F, H, qs⟩ F' H' σ' ρ' → EndG gs qs cs' ρ' → GrM qs F H F' H' ∧ Os K F' H' qs cs' := fun s h => by
      have q := os_of s h io.nd
      exact ⟨.ofFr s.fr q.al, q⟩
    cases r with
    | ret y =>
      exact ⟨fun ρ' F' H' σ' q s => (rd _ F' H' (fin s q.2).1 (fin s q.2).2 (by rw [show y = .none from q.1]; exact .non)), fun x ρ' v F' H' σ' q s rp => rd v F' H' (fin s q.2).1 (fin s q.2).2 (by rw [← show x = y from q.1]; exact rp), fun _ _ _ _ _ _ _ z => z.elim, fun _ _ _ _ z => z.elim, fun _ _ _ _ z => z.elim, fun _ _ _ _ _ _ z => z.elim, fun _ _ _ _ _ _ _ _ _ z => z.elim, fun _ _ _ _ _ _ z => z.elim⟩
    | own c =>
      exact ⟨fun _ _ _ _ z => z.elim, fun _ _ _ _ _ _ z => z.elim, fun _ _ _ _ _ _ _ z => z.elim, fun _ _ _ _ z => z.elim, fun _ _ _ _ z => z.elim, fun c' ρ' p F' H' σ' q s fp hp o => by
        cases (show c' = c from q.1)
        exact rd p F' H' (fin s q.2).1 (fin s q.2).2 hp fp o, fun _ _ _ _ _ _ _ _ _ z => z.elim, fun _ _ _ _ _ _ z => z.elim⟩
    | own2 c c2 => exact rd.elim
    | exc cls fs =>
      exact ⟨fun _ _ _ _ z => z.elim, fun _ _ _ _ _ _ z => z.elim, fun c' fs' ρ' d F' H' σ' q s rp => by
        obtain ⟨⟨rfl, rfl⟩, q2⟩ := (show (c' = cls ∧ fs' = fs) ∧ EndG gs qs cs' ρ' from q)
        exact rd d F' H' (fin s q2).1 (fin s q2).2 rp, fun _ _ _ _ z => z.elim, fun _ _ _ _ z => z.elim, fun _ _ _ _ _ _ z => z.elim, fun _ _ _ _ _ _ _ _ _ z => z.elim, fun _ _ _ _ _ _ z => z.elim⟩
    | raw Pr =>
      exact ⟨fun _ _ _ _ z => z.elim, fun _ _ _ _ _ _ z => z.elim, fun _ _ _ _ _ _ _ z => z.elim, fun _ _ _ _ z => z.elim, fun _ _ _ _ z => z.elim, fun _ _ _ _ _ _ z => z.elim, fun _ _ _ _ _ _ _ _ _ z => z.elim, fun P' ρ' v F' H' σ' q s h => by
        cases (show P' = Pr from q.1)
        exact rd v F' H' (fin s q.2).1 (fin s q.2).2 h⟩
end
end G

/-! GOs2: calls of defs and methods that are handed own objects. -/
namespace G
open PySem PySem.Spec PyProof.Rows L2
def tMethSD (C : Addr) (m : Str) (sp : Sp) (dvs : List V) (E : L2.St → XK) (ta : TE) (t : TA) : TE := fun σ H Q => ta σ H fun x H1 => ∃ a dx fs, x = .ref a ∧ H1 a = some (.ins C dx fs) ∧ fs.lookup m = none ∧ t σ H1 fun vs H2 => sp (x :: (vs ++ dvs)) H2 Q (E σ)
section
variable {X : Cx} {CX : CXT} {k : Nat} {C f : Addr} {fd : FuncData} {ps : List Str} {sp : Sp} {dvs : List V} {ds : List Value} {E : L2.St → XK} {m : Str} {apos pos : Pos} {o e : Expr} {es : List Expr} {ta : TE} {t : TA}
theorem pe_methSD {pl : Sem Bool} (he : PE X o ta) (c : Cls X.K C) (hm : Meth X.K C m f) (F : FnOk X.prog X.w X.K X.mg X.base CX k f fd ps sp) (hr : Room k X.A) (hb : Binds X.K fd ps ds) (hd : Vals dvs ds) (hx : ∀ σ, PassesAt CX X σ (E σ)) (ha : PA X (e :: es) t)
    (hst : starEach (e :: es) X.env = (false, eval e X.env) :: starEach es X.env) (hpl : (backTo pos (starEach es X.env)).any (·.1) = false)
    (ht : eval (.Call (.Attribute o m apos) (e :: es) [] pos) X.env = (do
      let ov ← eval o X.env
      standAt apos.atName
      let (f, first) ← holding [ov] (getMethod ov m pl)
      callWith pos f first (backTo pos (starEach (e :: es) X.env)) (backToKw pos (keywordEach [] X.env)))) :
    PE X (.Call (.Attribute o m apos) (e :: es) [] pos) (tMethSD C m sp dvs E ta t) := by
  refine ⟨fun pins s σ H Q I h => ?_⟩
  refine PySem.W.methodCall_KW (pl := pl) (thn (he.run pins s σ H _ I h) fun u s1 ⟨x, H1, I1, rx, a, dx, fs, ex, ea, l, q⟩ => ?_) ht
  subst ex
  obtain rfl : u = Value.ref a := rx
  refine getmeth_ok I1 ea c hm l ?_
  refine PySem.W.callWith_K (first := [.ref a]) (h₀ := X.base) I.ok.mod.kin hm.kp (thn (ha.run pos pins s1 σ H1 _ I1 q) fun us s2 ⟨vs, H2, I2, r, q2⟩ => ⟨I2.kIn, ?_⟩) hst hpl
  exact run_fnSD (us := .ref a :: us) (vs := .ref a :: vs) F hr hb hd (hx σ) I2 (.cons rfl r) q2
theorem pe_methSD0 {pl : Sem Bool} (he : PE X o ta) (c : Cls X.K C) (hm : Meth X.K C m f) (F : FnOk X.prog X.w X.K X.mg X.base CX k f fd ps sp) (hr : Room k X.A) (hb : Binds X.K fd ps ds) (hd : Vals dvs ds) (hx : ∀ σ, PassesAt CX X σ (E σ))
    (ht : eval (.Call (.Attribute o m apos) [] [] pos) X.env = (do
      let ov ← eval o X.env
      standAt apos.atName
      let (f, first) ← holding [ov] (getMethod ov m pl)
      callWith pos f first (backTo pos (starEach [] X.env)) (backToKw pos (keywordEach [] X.env)))) :
    PE X (.Call (.Attribute o m apos) [] [] pos) (tMethSD C m sp dvs E ta tNil) := by
  refine ⟨fun pins s σ H Q I h => ?_⟩
  refine PySem.W.methodCall_KW (pl := pl) (thn (he.run pins s σ H _ I h) fun u s1 ⟨x, H1, I1, rx, a, dx, fs, ex, ea, l, q⟩ => ?_) ht
  subst ex
  obtain rfl : u = Value.ref a := rx
  refine getmeth_ok I1 ea c hm l ?_
  exact PySem.W.callWith_K0 (first := [.ref a]) I1.kIn hm.kp (run_fnSD (us := [.ref a]) (vs := [.ref a]) F hr hb hd (hx σ) I1 (.cons rfl .nil) q)
end
/-- a method that may be called -/
structure CalM (P : Program) (w : World) (K : PySem.W.Frag) (mg : Str → Option Value) (base : Heap) (k : Nat) (Cl : Addr) (m : Str) (sp : Sp) (dvs : List V) : Prop where
  ex : ∃ (f : Addr) (fd : FuncData) (ps : List Str) (ds : List Value), FnOk P w K mg base (L2N.CX P w) k f fd ps sp ∧ Meth K Cl m f ∧ Binds K fd ps ds ∧ Vals dvs ds
  cls : Cls K Cl
theorem CalM.mono {P : Program} {w : World} {K : PySem.W.Frag} {mg : Str → Option Value} {base : Heap} {j k : Nat} {Cl : Addr} {m : Str} {sp : Sp} {dvs : List V} (c : CalM P w K mg base j Cl m sp dvs) (h : j ≤ k) : CalM P w K mg base k Cl m sp dvs := by
  obtain ⟨f, fd, ps, ds, a, b⟩ := c.ex
  exact ⟨⟨f, fd, ps, ds, a.mono h, b⟩, c.cls⟩
theorem Le.trans : ∀ {a b c : En}, Le a b → Le b c → Le a c
  | _, _, _, .nil, h => h
  | _, _, _, .un h, .un g => .un (Le.trans h g)
  | _, _, _, .un h, .eq g => .un (Le.trans h g)
  | _, _, _, .eq h, .un g => .un (Le.trans h g)
  | _, _, _, .eq h, .eq g => .eq (Le.trans h g)
theorem le_un : ∀ (ρ : En) (i : Nat), Le (ρ.set i .un) ρ
  | [], _ => .refl _
  | s :: ρ, 0 => .un (.refl _)
  | s :: ρ, i + 1 => .eq (le_un ρ i)
/-- what the caller's slots hold -/
def SlA : List Nat → List (Option Addr) → List Ct → En → Prop
  | [], [], [], _ => True
  | g :: gs, b :: bs, c :: cs, ρ => ρ[g]? = some (.o b c) ∧ SlA gs bs cs ρ
  | _, _, _, _ => False
/-- the addresses that are told -/
def Adr : List Ct → List Addr → Prop
  | [], [] => True
  | .g p _ :: cs, q :: qs => q = p ∧ Adr cs qs
  | _ :: cs, _ :: qs => Adr cs qs
  | _, _ => False
/-- the caller's objects -/
structure Got (K : PySem.W.Frag) (F H : Hp) (σ : L2.St) (ρ : En) (hs : List Nat) (bs : List (Option Addr)) (cs : List Ct) (qs : List Addr) : Prop where
  lh : hs.length = qs.length
  lb : bs.length = qs.length
  lc : cs.length = qs.length
  at_ : ∀ (k : Nat) (q : Addr), qs[k]? = some q → ∃ g b c, hs[k]? = some g ∧ bs[k]? = some b ∧ cs[k]? = some c ∧ σ[g]? = some (some (.ref q)) ∧ ρ[g]? = some (.o b c) ∧ (b = none ∨ b = some q) ∧ F q = none ∧ Own1 K F H q c
section
variable {K : PySem.W.Frag} {C : Cn} {F H F' H' : Hp} {σ : L2.St} {ρ : En}
theorem got : ∀ {hs : List Nat} {bs : List (Option Addr)} {cs : List Ct}, SE K C F H σ ρ → SlA hs bs cs ρ → ∃ qs, Got K F H σ ρ hs bs cs qs ∧ Adr cs qs
  | [], [], [], e, _ => ⟨[], ⟨rfl, rfl, rfl, fun k q h => by simp at h⟩, trivial⟩
  | g :: gs, b :: bs, c :: cs, e, h => by
    obtain ⟨qs, ⟨h1, h2, h3, h4⟩, h5⟩ := got e h.2
    obtain ⟨l, a1, a2, a3, a4⟩ := e.getO h.1
    refine ⟨l :: qs, ⟨by simpa using h1, by simpa using h2, by simpa using h3, fun k q hk => ?_⟩, ?_⟩
    · cases k with
      | zero => cases hk; exact ⟨g, b, c, rfl, rfl, rfl, a1, h.1, a2, (e.own _ _ a4).1, a3⟩
      | succ k => exact h4 k q (by simpa using hk)
    · cases c with
      | g p c => exact ⟨a3.1, h5⟩
      | _ => exact h5
  | [], [], _ :: _, _, h => h.elim
  | [], _ :: _, _, _, h => h.elim
  | _ :: _, [], _, _, h => h.elim
  | _ :: _, _ :: _, [], _, h => h.elim
variable {hs : List Nat} {bs : List (Option Addr)} {cs cs' : List Ct} {qs : List Addr}
theorem Got.nd (g : Got K F H σ ρ hs bs cs qs) (e : SE K C F H σ ρ) (hn : hs.Nodup) : qs.Nodup := by
  rw [List.nodup_iff_pairwise_ne, List.pairwise_iff_getElem]
  intro i j hi hj hij q
  obtain ⟨g1, b1, c1, x1, _, _, x2, x3, _⟩ := g.at_ i _ (List.getElem?_eq_getElem hi)
  obtain ⟨g2, b2, c2, y1, _, _, y2, y3, _⟩ := g.at_ j _ (List.getElem?_eq_getElem hj)
  rw [← q] at y2
  have z := e.sep g1 g2 _ ⟨x2, _, x3, rfl⟩ ⟨y2, _, y3, rfl⟩
  subst z
  have hi' := (List.getElem?_eq_some_iff.mp x1)
  have hj' := (List.getElem?_eq_some_iff.mp y1)
  have := (List.nodup_iff_pairwise_ne.mp hn)
  rw [List.pairwise_iff_getElem] at this
  exact this i j hi'.1 hj'.1 hij (by rw [hi'.2, hj'.2])
theorem Got.os (g : Got K F H σ ρ hs bs cs qs) (e : SE K C F H σ ρ) (hn : hs.Nodup) : Os K F H qs cs := ⟨g.lc, g.nd e hn, fun k p c hp hc => by
  obtain ⟨_, _, c', _, _, h3, _, _, _, h7, h8⟩ := g.at_ k p hp
  rw [hc] at h3
  cases h3
  exact ⟨h7, h8⟩⟩
/-- all of them given up -/
def unSl (gs : List Nat) (ρ : En) : En := gs.foldl (fun r g => r.set g .un) ρ
theorem unSl_le : ∀ (gs : List Nat) (ρ : En), Le (unSl gs ρ) ρ
  | [], ρ => .refl _
  | g :: gs, ρ => (unSl_le gs (ρ.set g .un)).trans (le_un ρ g)
theorem unSl_in : ∀ (gs : List Nat) (ρ : En) (j : Nat) (s : Sl), j ∈ gs → (unSl gs ρ)[j]? = some s → s = .un
  | g :: gs, ρ, j, s, h, q => by
    by_cases z : j ∈ gs
    · exact unSl_in gs _ j s z q
    · have e : j = g := (List.mem_cons.mp h).resolve_right z
      subst e
      rcases (unSl_le gs (ρ.set j .un)).get q with r | r
      · exact r
      · exact (set_at r).1.symm
theorem unSl_out : ∀ (gs : List Nat) (ρ : En) (j : Nat), j ∉ gs → (unSl gs ρ)[j]? = ρ[j]?
  | [], _, _, _ => rfl
  | g :: gs, ρ, j, h => by
    show (unSl gs (ρ.set g .un))[j]? = _
    rw [unSl_out gs _ j (fun z => h (List.mem_cons_of_mem _ z)), List.getElem?_set_ne (fun z => h (by rw [← z]; exact List.mem_cons_self ..))]
theorem unSl_len : ∀ (gs : List Nat) (ρ : En), (unSl gs ρ).length = ρ.length
  | [], _ => rfl
  | g :: gs, ρ => by
    show (unSl gs (ρ.set g .un)).length = _
    rw [unSl_len gs, List.length_set]
/-- the slot of the k-th object -/
theorem Got.slot (g : Got K F H σ ρ hs bs cs qs) {p : Addr} (hp : p ∈ qs) : ∃ (k j : Nat), hs[k]? = some j ∧ qs[k]? = some p ∧ Owns σ ρ j p := by
  obtain ⟨k, hk, rfl⟩ := List.getElem_of_mem hp
  obtain ⟨j, b, c, h1, _, _, h2, h3, _⟩ := g.at_ k _ (List.getElem?_eq_getElem hk)
  exact ⟨k, j, h1, List.getElem?_eq_getElem hk, h2, _, h3, rfl⟩
/-- behind the call -/
theorem SE.osC (e : SE K C F H σ ρ) (g : Got K F H σ ρ hs bs cs qs) (hn : hs.Nodup) (gr : GrM qs F H F' H') (io : Os K F' H' qs cs') : SE K C F' H' σ (setSl hs (owns bs cs') ρ) := by
  have nd := io.nd
  have e1 := e.le (unSl_le hs ρ)
  have conv : ∀ j a, Owns σ (unSl hs ρ) j a → Owns σ ρ j a ∧ j ∉ hs := fun j a ⟨h1, s, h2, h3⟩ => by
    by_cases z : j ∈ hs
    · have := unSl_in _ _ j s z h2
      subst this; cases h3
    · rw [unSl_out _ _ j z] at h2
      exact ⟨⟨h1, s, h2, h3⟩, z⟩
  have noM : ∀ a ∈ qs, ∀ j, ¬ Owns σ (unSl hs ρ) j a := fun a ha j hj => by
    obtain ⟨h1, h2⟩ := conv j a hj
    obtain ⟨k, j', k1, k2, k3⟩ := g.slot ha
    have := e.sep j j' a h1 k3
    subst this
    exact h2 (List.mem_of_getElem? k1)
  have e2 := e1.growM gr noM (fun a ha => by
    obtain ⟨k, j', k1, k2, k3⟩ := g.slot ha
    exact (e.own _ _ k3).2.2)
  have e4 := e2.setG hs bs qs cs' g.lh g.lb io.lc hn nd (fun g' hg a ha => (conv g' a ha).2 hg) (fun p hp j hj => noM p hp j hj) (fun k p c b hp hc hb => by
      obtain ⟨j, b', c0, h1, h2, h3, h4, h5, h6, h7, h8⟩ := g.at_ k p hp
      rw [hb] at h2
      cases h2
      obtain ⟨q1, q2⟩ := io.own k p c hp hc
      have ow : Owns σ ρ j p := ⟨h4, _, h5, rfl⟩
      exact ⟨q1, q2, (e.own _ _ ow).2.2, h6, fun z => by subst z; exact e.fresh _ _ _ h5 h4⟩)
  rw [setSt_same hs qs σ (fun k g' p k1 k2 => by
    obtain ⟨j, b', c0, h1, h2, h3, h4, h5, h6, h7, h8⟩ := g.at_ k p k2
    rw [k1] at h1
    cases h1
    exact h4)] at e4
  have er : setSl hs (owns bs cs') (unSl hs ρ) = setSl hs (owns bs cs') ρ := by
    apply List.ext_getElem?
    intro j
    by_cases z : j ∈ hs
    · obtain ⟨k, hk, q⟩ := List.getElem_of_mem z
      have hkp : k < qs.length := by rw [← g.lh]; exact hk
      obtain ⟨j', b', c0, h1, h2, h3, h4, h5, h6, h7, h8⟩ := g.at_ k _ (List.getElem?_eq_getElem hkp)
      have gk : hs[k]? = some j := by rw [List.getElem?_eq_getElem hk, q]
      rw [gk] at h1
      cases h1
      have hjl : j < ρ.length := (List.getElem?_eq_some_iff.mp h5).1
      have gh := owns_at bs cs' k _ _ h2 (List.getElem?_eq_getElem (show k < cs'.length by rw [io.lc]; exact hkp))
      rw [setSl_at hs _ _ k j _ hn gk gh (by rw [unSl_len]; exact hjl), setSl_at hs _ _ k j _ hn gk gh hjl]
    · rw [setSl_out hs _ _ j z, setSl_out hs _ _ j z, unSl_out _ _ j z]
  rw [er] at e4
  exact e4
theorem Got.own (g : Got K F H σ ρ hs bs cs qs) (io : cs'.length = qs.length) (hn : hs.Nodup) {j : Nat} {p : Addr} (h : Owns σ (setSl hs (owns bs cs') ρ) j p) : Owns σ ρ j p := by
  obtain ⟨h1, s, h2, h3⟩ := h
  by_cases z : j ∈ hs
  · obtain ⟨k, hk, q⟩ := List.getElem_of_mem z
    have hkp : k < qs.length := by rw [← g.lh]; exact hk
    obtain ⟨j', b', c0, y1, y2, y3, y4, y5, y6, y7, y8⟩ := g.at_ k _ (List.getElem?_eq_getElem hkp)
    rw [List.getElem?_eq_getElem hk, q] at y1
    cases y1
    exact ⟨h1, _, y5, rfl⟩
  · rw [setSl_out hs _ _ j z] at h2
    exact ⟨h1, s, h2, h3⟩
/-! ### arguments -/
def ArS (K : PySem.W.Frag) (F : Hp) (σ : L2.St) (hs : List Nat) (v : V) : Ar → Prop
  | .d x => Rp K F v x
  | .o k => ∃ n, hs[k]? = some n ∧ σ[n]? = some (some v)
inductive ArSs (K : PySem.W.Frag) (F : Hp) (σ : L2.St) (hs : List Nat) : List V → List Ar → Prop
  | nil : ArSs K F σ hs [] []
  | cons {v : V} {vs : List V} {a : Ar} {as : List Ar} : ArS K F σ hs v a → ArSs K F σ hs vs as → ArSs K F σ hs (v :: vs) (a :: as)
theorem ArS.mono (x : Ex F F') {v : V} {a : Ar} (h : ArS K F σ hs v a) : ArS K F' σ hs v a := by
  cases a with
  | d d => exact Rp.mono x h
  | o k => exact h
theorem ArSs.ar (g : Got K F H σ ρ hs bs cs qs) : ∀ {vs : List V} {as : List Ar}, ArSs K F σ hs vs as → ArVs K F qs vs as
  | _, _, .nil => .nil
  | _, _, .cons (v := v) (a := a) h r => by
    refine .cons ?_ (ArSs.ar g r)
    cases a with
    | d d => exact h
    | o k =>
      obtain ⟨n, h1, h2⟩ := h
      have hk : k < qs.length := by rw [← g.lh]; exact (List.getElem?_eq_some_iff.mp h1).1
      obtain ⟨j, b', c0, y1, y2, y3, y4, _⟩ := g.at_ k _ (List.getElem?_eq_getElem hk)
      rw [h1] at y1
      cases y1
      rw [h2] at y4
      cases y4
      exact ⟨_, List.getElem?_eq_getElem hk, rfl⟩
theorem ArVs.app : ∀ {vs ws : List V} {as : List Ar} {ds : List PyData}, ArVs K F qs vs as → RpA K F ws ds → ArVs K F qs (vs ++ ws) (as ++ ds.map .d)
  | _, _, _, _, .nil, .nil => .nil
  | _, _, _, _, .nil, .cons h r => .cons h (ArVs.app .nil r)
  | _, _, _, _, .cons h r, w => .cons h (ArVs.app r w)
/-- what a call gives -/
def RetC (K : PySem.W.Frag) (C : Cn) (F1 H1 : Hp) (σ : L2.St) (ρ2 : En) (Q : VK) (E : XK) : Res → Prop
  | .ret y => ∀ v F2 H2, Ex F1 F2 → SE K C F2 H2 σ ρ2 → Rp K F2 v y → Q v H2
  | .own c => ∀ p F2 H2, Ex F1 F2 → SE K C F2 H2 σ ρ2 → F2 p = none → C.H0 p = none → (∀ j, ¬ Owns σ ρ2 j p) → Own1 K F2 H2 p c → Q (.ref p) H2
  | .own2 _ _ => False
  | .exc cls fs => ∀ d F2 H2, Ex F1 F2 → SE K C F2 H2 σ ρ2 → ExRep K F2 H2 d fs → E cls d H2
  | .raw P => ∀ v F2 H2, Ex F1 F2 → SE K C F2 H2 σ ρ2 → (∀ p, H1 p = none → C.H0 p = none ∧ ∀ j, ¬ Owns σ ρ2 j p) → P H1 F2 H2 v → Q v H2
theorem run_G {S : List Ar → List Addr → List Ct → Res → List Ct → Prop} {vs dvs : List V} {ar : List Ar} {dds : List PyData} {r : Res} {Q : VK} {E : XK} (e : SE K C F H σ ρ) (ha : ArSs K F σ hs vs ar) (hd : Dfs dvs dds) (hsl : SlA hs bs cs ρ) (hn : hs.Nodup) (hS : ∀ qs, Adr cs qs → S (ar ++ dds.map .d) qs cs r cs')
    (hq : RetC K C F H σ (setSl hs (owns bs cs') ρ) Q E r) : spG K S (vs ++ dvs) H Q E := by
  obtain ⟨qs, g, ad⟩ := got e hsl
  refine ⟨F, _, qs, cs, r, cs', e.fr.ext, g.os e hn, (ArSs.ar g ha).app hd.rp, hS qs ad, ?_⟩
  have new : cs'.length = qs.length → ∀ p, H p = none → C.H0 p = none ∧ ∀ j, ¬ Owns σ (setSl hs (owns bs cs') ρ) j p := fun hl p hp => ⟨e.fr.there p hp, fun j o => (e.own j p (g.own hl hn o)).2.1 hp⟩
  cases r with
  | ret y => exact fun v F' H' gr io rp => hq v F' H' gr.f (e.osC g hn gr io) rp
  | own c => exact fun p F' H' gr io hp fp o => hq p F' H' gr.f (e.osC g hn gr io) fp (new io.lc p hp).1 (new io.lc p hp).2 o
  | own2 _ _ => exact hq.elim
  | exc cls fs => exact fun d F' H' gr io rp => hq d F' H' gr.f (e.osC g hn gr io) rp
  | raw P => exact fun v F' H' gr io rp => hq v F' H' gr.f (e.osC g hn gr io) (new io.lc) rp
end
def tAG (K : PySem.W.Frag) (hs : List Nat) (ρ : En) (ar : List Ar) (ρ' : En) : TA := fun σ H Q => ∃ C F, SE K C F H σ ρ ∧ ∀ vs F' H', Ex F F' → SE K C F' H' σ ρ' → ArSs K F' σ hs vs ar → Q vs H'
abbrev AG (X : Cx) (hs : List Nat) (es : List Expr) (ρ : En) (ar : List Ar) (ρ' : En) : Prop := PA X es (tAG X.K hs ρ ar ρ')
/-- what a new object comes with: the addresses of its fields -/
def NewOs (K : PySem.W.Frag) (n : Nat) (f : List Addr → List Ct) : Hp → Hp → Hp → V → Prop := fun H F' H' v => ∃ q qs, v = .ref q ∧ qs.length = n ∧ Os K F' H' (q :: qs) (f qs) ∧ ∀ p ∈ q :: qs, H p = none
/-- e gives a new instance -/
def tNI (K : PySem.W.Frag) (ρ : En) (n : Nat) (f : List Addr → List Ct) (ρ' : En) : TE := fun σ H Q => ∃ C F, SE K C F H σ ρ ∧ ∀ q qs F' H', Ex F F' → SE K C F' H' σ ρ' → qs.length = n → Os K F' H' (q :: qs) (f qs) → (∀ p ∈ q :: qs, C.H0 p = none ∧ ∀ j, ¬ Owns σ ρ' j p) → Q (.ref q) H'
abbrev PI' (X : Cx) (e : Expr) (ρ : En) (n : Nat) (f : List Addr → List Ct) (ρ' : En) : Prop := PE X e (tNI X.K ρ n f ρ')
section
variable {X : Cx} {W : WX} {e a b c o : Expr} {es : List Expr} {p p2 pos : Pos} {ρ ρ' ρ1 ρ2 : En} {y z : PyData} {i j k n r : Nat} {x m : Str} {dvs : List V} {dds : List PyData} {D : DE} {rest : List Stmt}
  {hs : List Nat} {bs : List (Option Addr)} {cs cs' : List Ct} {ar : List Ar} {Cl : Addr} {fs : List (Str × V)} {pa : Option Addr} {S : List Ar → List Addr → List Ct → Res → List Ct → Prop} {cls : Value} {xs : List (Str × PyData)} {ct : Ct} {g : List Addr → List Ct}
theorem ag_nil : AG X hs [] ρ [] ρ := PA_imp pa_nil fun σ H Q ⟨C, F, se, q⟩ => q [] F H (.refl _) se .nil
theorem ag_d (h : PD X e ρ y ρ1) (hr : AG X hs es ρ1 ar ρ2) (hq : starEach (e :: es) X.env = (false, eval e X.env) :: starEach es X.env := by rfl) : AG X hs (e :: es) ρ (.d y :: ar) ρ2 := PA_imp (pa_cons h hr hq) fun σ H Q ⟨C, F, se, q⟩ =>
  ⟨C, F, se, fun v F1 H1 x1 e1 r1 => ⟨C, F1, e1, fun vs F2 H2 x2 e2 r2 => q (v :: vs) F2 H2 (x1.trans x2) e2 (.cons (Rp.mono x2 r1) r2)⟩⟩
theorem ag_o (j n : Nat) (h : PV X e n ρ) {b : Option Addr} {ct : Ct} (h0 : ρ[n]? = some (.o b ct)) (hj : hs[j]? = some n) (hr : AG X hs es ρ ar ρ2) (hq : starEach (e :: es) X.env = (false, eval e X.env) :: starEach es X.env := by rfl) : AG X hs (e :: es) ρ (.o j :: ar) ρ2 := PA_imp (pa_cons h hr hq) fun σ H Q ⟨C, F, se, q⟩ => by
  obtain ⟨l, a1, _⟩ := se.getO h0
  exact ⟨⟨C, F, se⟩, .ref l, a1, C, F, se, fun vs F2 H2 x2 e2 r2 => q (.ref l :: vs) F2 H2 x2 e2 (.cons ⟨n, hj, a1⟩ r2)⟩
/-! #### a def's call -/
section
variable (cl : Cal X.prog X.w X.K X.mg X.base j x (spG X.K S) dvs) (hr : Room k X.A) (hd : Dfs dvs dds) (ha : AG X hs (e :: es) ρ ar ρ1) (hsl : SlA hs bs cs ρ1) (hn : hs.Nodup)
theorem pd_callG (cl : Cal X.prog X.w X.K X.mg X.base j x (spG X.K S) dvs) (hr : Room k X.A) (hd : Dfs dvs dds) (ha : AG X hs (e :: es) ρ ar ρ1) (hsl : SlA hs bs cs ρ1) (hn : hs.Nodup) (hS : ∀ qs, Adr cs qs → S (ar ++ dds.map .d) qs cs (.ret y) cs') (hk : j ≤ k := by decide) (hg : Gl X x := by rfl)
    (hdb : (x == ("__debug__" : Str)) = false := by decide) (he : starEach (e :: es) X.env = (false, eval e X.env) :: starEach es X.env := by rfl) (hpl : (backTo pos (starEach es X.env)).any (·.1) = false := by rfl) :
    PD X (.Call (.Name x p) (e :: es) [] pos) ρ y (setSl hs (owns bs cs') ρ1) := by
  obtain ⟨f, fd, ps, dd, fn, hm, kp, bi, vv⟩ := cl.ex
  exact PE_imp (pe_callSD fn (hr.mono hk) hg hm kp bi vv (fun σ => passE0 σ) ha hdb he hpl) fun σ H Q ⟨C, F, se, q⟩ => ⟨C, F, se, fun vs F1 H1 x1 e1 r1 => run_G e1 r1 hd hsl hn hS fun v F2 H2 x2 e2 rp => q v F2 H2 (x1.trans x2) e2 rp⟩
theorem pn_callG (cl : Cal X.prog X.w X.K X.mg X.base j x (spG X.K S) dvs) (hr : Room k X.A) (hd : Dfs dvs dds) (ha : AG X hs (e :: es) ρ ar ρ1) (hsl : SlA hs bs cs ρ1) (hn : hs.Nodup) (hS : ∀ qs, Adr cs qs → S (ar ++ dds.map .d) qs cs (.own ct) cs') (hk : j ≤ k := by decide) (hg : Gl X x := by rfl)
    (hdb : (x == ("__debug__" : Str)) = false := by decide) (he : starEach (e :: es) X.env = (false, eval e X.env) :: starEach es X.env := by rfl) (hpl : (backTo pos (starEach es X.env)).any (·.1) = false := by rfl) :
    PN X (.Call (.Name x p) (e :: es) [] pos) ρ ct (setSl hs (owns bs cs') ρ1) := by
  obtain ⟨f, fd, ps, dd, fn, hm, kp, bi, vv⟩ := cl.ex
  exact PE_imp (pe_callSD fn (hr.mono hk) hg hm kp bi vv (fun σ => passE0 σ) ha hdb he hpl) fun σ H Q ⟨C, F, se, q⟩ => ⟨C, F, se, fun vs F1 H1 x1 e1 r1 => run_G e1 r1 hd hsl hn hS fun p F2 H2 x2 e2 fp h0 no o => q p F2 H2 (x1.trans x2) e2 fp h0 no o⟩
theorem px_callG (tk : L2N.Takes X W) (cl : Cal X.prog X.w X.K X.mg X.base j x (spG X.K S) dvs) (hr : Room k X.A) (hd : Dfs dvs dds) (ha : AG X hs (e :: es) ρ ar ρ1) (hsl : SlA hs bs cs ρ1) (hn : hs.Nodup) (hS : ∀ qs, Adr cs qs → S (ar ++ dds.map .d) qs cs (.exc cls xs) cs') (hk : j ≤ k := by decide) (hg : Gl X x := by rfl)
    (hdb : (x == ("__debug__" : Str)) = false := by decide) (he : starEach (e :: es) X.env = (false, eval e X.env) :: starEach es X.env := by rfl) (hpl : (backTo pos (starEach es X.env)).any (·.1) = false := by rfl) :
    PX X W (.Call (.Name x p) (e :: es) [] pos) ρ cls xs (setSl hs (owns bs cs') ρ1) := by
  obtain ⟨f, fd, ps, dd, fn, hm, kp, bi, vv⟩ := cl.ex
  exact PE_imp (pe_callSD fn (hr.mono hk) hg hm kp bi vv (fun σ => L2N.passAt tk σ) ha hdb he hpl) fun σ H Q ⟨C, F, se, q⟩ => ⟨C, F, se, fun vs F1 H1 x1 e1 r1 => run_G e1 r1 hd hsl hn hS fun d F2 H2 x2 e2 rp => q d F2 H2 (x1.trans x2) e2 rp⟩
theorem pi_callG (cl : Cal X.prog X.w X.K X.mg X.base j x (spG X.K S) dvs) (hr : Room k X.A) (hd : Dfs dvs dds) (ha : AG X hs (e :: es) ρ ar ρ1) (hsl : SlA hs bs cs ρ1) (hn : hs.Nodup) (hS : ∀ qs, Adr cs qs → S (ar ++ dds.map .d) qs cs (.raw (NewOs X.K n g)) cs') (hk : j ≤ k := by decide) (hg : Gl X x := by rfl)
    (hdb : (x == ("__debug__" : Str)) = false := by decide) (he : starEach (e :: es) X.env = (false, eval e X.env) :: starEach es X.env := by rfl) (hpl : (backTo pos (starEach es X.env)).any (·.1) = false := by rfl) :
    PI' X (.Call (.Name x p) (e :: es) [] pos) ρ n g (setSl hs (owns bs cs') ρ1) := by
  obtain ⟨f, fd, ps, dd, fn, hm, kp, bi, vv⟩ := cl.ex
  exact PE_imp (pe_callSD fn (hr.mono hk) hg hm kp bi vv (fun σ => passE0 σ) ha hdb he hpl) fun σ H Q ⟨C, F, se, q⟩ => ⟨C, F, se, fun vs F1 H1 x1 e1 r1 => run_G e1 r1 hd hsl hn hS fun v F2 H2 x2 e2 nw ⟨l, qs, ev, hl, io, hp⟩ => by
    subst ev
    exact q l qs F2 H2 (x1.trans x2) e2 hl io fun p hq => nw p (hp p hq)⟩
end
/-! #### a method's call -/
theorem meth_H {C : Cn} {F H : Hp} {σ : L2.St} (se : SE X.K C F H σ ρ) (h0 : ρ[n]? = some (.o pa (.n Cl fs))) (hl : fs.lookup m = none) {Q : V → Prop} (h : ∀ l, σ[n]? = some (some (.ref l)) → (∃ l' dx fs', V.ref l = .ref l' ∧ H l' = some (.ins Cl dx fs') ∧ fs'.lookup m = none) → Q (.ref l)) : ∃ v, σ[n]? = some (some v) ∧ Q v := by
  obtain ⟨l, a1, _, ⟨dx, a2⟩, _⟩ := se.getO h0
  exact ⟨.ref l, a1, h l a1 ⟨l, dx, fs, rfl, a2, hl⟩⟩
theorem pd_methG {pl : Sem Bool} (r n : Nat) (cl : CalM X.prog X.w X.K X.mg X.base j Cl m (spG X.K S) dvs) (hr : Room k X.A) (hd : Dfs dvs dds) (ho : PV X o n ρ) (h0 : ρ[n]? = some (.o pa (.n Cl fs))) (hlk : fs.lookup m = none) (hrn : hs[r]? = some n) (ha : AG X hs (e :: es) ρ ar ρ1) (hsl : SlA hs bs cs ρ1) (hn : hs.Nodup) (hS : ∀ qs, Adr cs qs → S (.o r :: (ar ++ dds.map .d)) qs cs (.ret y) cs') (hk : j ≤ k := by decide)
    (hst : starEach (e :: es) X.env = (false, eval e X.env) :: starEach es X.env := by rfl) (hpl : (backTo pos (starEach es X.env)).any (·.1) = false := by rfl)
    (ht : eval (.Call (.Attribute o m p2) (e :: es) [] pos) X.env = (do
      let ov ← eval o X.env
      standAt p2.atName
      let (f, first) ← holding [ov] (getMethod ov m pl)
      callWith pos f first (backTo pos (starEach (e :: es) X.env)) (backToKw pos (keywordEach [] X.env))) := by rfl) : PD X (.Call (.Attribute o m p2) (e :: es) [] pos) ρ y (setSl hs (owns bs cs') ρ1) := by
  obtain ⟨f, fd, ps, dd, fn, hm, bi, vv⟩ := cl.ex
  refine PE_imp (pe_methSD ho cl.cls hm fn (hr.mono hk) bi vv (fun σ => passE0 σ) ha hst hpl ht) fun σ H Q ⟨C, F, se, q⟩ => ⟨⟨C, F, se⟩, ?_⟩
  obtain ⟨l, a1, _, ⟨dx, a2⟩, _⟩ := se.getO h0
  exact ⟨.ref l, a1, l, dx, fs, rfl, a2, hlk, C, F, se, fun vs F1 H1 x1 e1 r1 => run_G (vs := .ref l :: vs) (ar := .o r :: ar) e1 (.cons ⟨n, hrn, a1⟩ r1) hd hsl hn hS fun v F2 H2 x2 e2 rp => q v F2 H2 (x1.trans x2) e2 rp⟩
theorem px_methG {pl : Sem Bool} (tk : L2N.Takes X W) (r n : Nat) (cl : CalM X.prog X.w X.K X.mg X.base j Cl m (spG X.K S) dvs) (hr : Room k X.A) (hd : Dfs dvs dds) (ho : PV X o n ρ) (h0 : ρ[n]? = some (.o pa (.n Cl fs))) (hlk : fs.lookup m = none) (hrn : hs[r]? = some n) (ha : AG X hs (e :: es) ρ ar ρ1) (hsl : SlA hs bs cs ρ1) (hn : hs.Nodup) (hS : ∀ qs, Adr cs qs → S (.o r :: (ar ++ dds.map .d)) qs cs (.exc cls xs) cs') (hk : j ≤ k := by decide)
    (hst : starEach (e :: es) X.env = (false, eval e X.env) :: starEach es X.env := by rfl) (hpl : (backTo pos (starEach es X.env)).any (·.1) = false := by rfl)
    (ht : eval (.Call (.Attribute o m p2) (e :: es) [] pos) X.env = (do
      let ov ← eval o X.env
      standAt p2.atName
      let (f, first) ← holding [ov] (getMethod ov m pl)
      callWith pos f first (backTo pos (starEach (e :: es) X.env)) (backToKw pos (keywordEach [] X.env))) := by rfl) : PX X W (.Call (.Attribute o m p2) (e :: es) [] pos) ρ cls xs (setSl hs (owns bs cs') ρ1) := by
  obtain ⟨f, fd, ps, dd, fn, hm, bi, vv⟩ := cl.ex
  refine PE_imp (pe_methSD ho cl.cls hm fn (hr.mono hk) bi vv (fun σ => L2N.passAt tk σ) ha hst hpl ht) fun σ H Q ⟨C, F, se, q⟩ => ⟨⟨C, F, se⟩, ?_⟩
  obtain ⟨l, a1, _, ⟨dx, a2⟩, _⟩ := se.getO h0
  exact ⟨.ref l, a1, l, dx, fs, rfl, a2, hlk, C, F, se, fun vs F1 H1 x1 e1 r1 => run_G (vs := .ref l :: vs) (ar := .o r :: ar) e1 (.cons ⟨n, hrn, a1⟩ r1) hd hsl hn hS fun d F2 H2 x2 e2 rp => q d F2 H2 (x1.trans x2) e2 rp⟩
theorem pi_methG {pl : Sem Bool} (r i : Nat) (cl : CalM X.prog X.w X.K X.mg X.base j Cl m (spG X.K S) dvs) (hr : Room k X.A) (hd : Dfs dvs dds) (ho : PV X o i ρ) (h0 : ρ[i]? = some (.o pa (.n Cl fs))) (hlk : fs.lookup m = none) (hrn : hs[r]? = some i) (ha : AG X hs (e :: es) ρ ar ρ1) (hsl : SlA hs bs cs ρ1) (hn : hs.Nodup) (hS : ∀ qs, Adr cs qs → S (.o r :: (ar ++ dds.map .d)) qs cs (.raw (NewOs X.K n g)) cs') (hk : j ≤ k := by decide)
    (hst : starEach (e :: es) X.env = (false, eval e X.env) :: starEach es X.env := by rfl) (hpl : (backTo pos (starEach es X.env)).any (·.1) = false := by rfl)
    (ht : eval (.Call (.Attribute o m p2) (e :: es) [] pos) X.env = (do
      let ov ← eval o X.env
      standAt p2.atName
      let (f, first) ← holding [ov] (getMethod ov m pl)
      callWith pos f first (backTo pos (starEach (e :: es) X.env)) (backToKw pos (keywordEach [] X.env))) := by rfl) : PI' X (.Call (.Attribute o m p2) (e :: es) [] pos) ρ n g (setSl hs (owns bs cs') ρ1) := by
  obtain ⟨f, fd, ps, dd, fn, hm, bi, vv⟩ := cl.ex
  refine PE_imp (pe_methSD ho cl.cls hm fn (hr.mono hk) bi vv (fun σ => passE0 σ) ha hst hpl ht) fun σ H Q ⟨C, F, se, q⟩ => ⟨⟨C, F, se⟩, ?_⟩
  obtain ⟨l, a1, _, ⟨dx, a2⟩, _⟩ := se.getO h0
  exact ⟨.ref l, a1, l, dx, fs, rfl, a2, hlk, C, F, se, fun vs F1 H1 x1 e1 r1 => run_G (vs := .ref l :: vs) (ar := .o r :: ar) e1 (.cons ⟨i, hrn, a1⟩ r1) hd hsl hn hS fun v F2 H2 x2 e2 nw ⟨l, qs, ev, hl, io, hp⟩ => by
    subst ev
    exact q l qs F2 H2 (x1.trans x2) e2 hl io fun p hq => nw p (hp p hq)⟩
theorem pd_methG0 {pl : Sem Bool} (r n : Nat) (cl : CalM X.prog X.w X.K X.mg X.base j Cl m (spG X.K S) dvs) (hr : Room k X.A) (hd : Dfs dvs dds) (ho : PV X o n ρ) (h0 : ρ[n]? = some (.o pa (.n Cl fs))) (hlk : fs.lookup m = none) (hrn : hs[r]? = some n) (hsl : SlA hs bs cs ρ) (hn : hs.Nodup) (hS : ∀ qs, Adr cs qs → S (.o r :: dds.map .d) qs cs (.ret y) cs') (hk : j ≤ k := by decide)
    (ht : eval (.Call (.Attribute o m p2) [] [] pos) X.env = (do
      let ov ← eval o X.env
      standAt p2.atName
      let (f, first) ← holding [ov] (getMethod ov m pl)
      callWith pos f first (backTo pos (starEach [] X.env)) (backToKw pos (keywordEach [] X.env))) := by rfl) : PD X (.Call (.Attribute o m p2) [] [] pos) ρ y (setSl hs (owns bs cs') ρ) := by
  obtain ⟨f, fd, ps, dd, fn, hm, bi, vv⟩ := cl.ex
  refine PE_imp (pe_methSD0 ho cl.cls hm fn (hr.mono hk) bi vv (fun σ => passE0 σ) ht) fun σ H Q ⟨C, F, se, q⟩ => ⟨⟨C, F, se⟩, ?_⟩
  obtain ⟨l, a1, _, ⟨dx, a2⟩, _⟩ := se.getO h0
  exact ⟨.ref l, a1, l, dx, fs, rfl, a2, hlk, run_G (vs := [.ref l]) (ar := [.o r]) se (.cons ⟨n, hrn, a1⟩ .nil) hd hsl hn hS fun v F2 H2 x2 e2 rp => q v F2 H2 x2 e2 rp⟩
theorem pi_methG0 {pl : Sem Bool} (r i : Nat) (cl : CalM X.prog X.w X.K X.mg X.base j Cl m (spG X.K S) dvs) (hr : Room k X.A) (hd : Dfs dvs dds) (ho : PV X o i ρ) (h0 : ρ[i]? = some (.o pa (.n Cl fs))) (hlk : fs.lookup m = none) (hrn : hs[r]? = some i) (hsl : SlA hs bs cs ρ) (hn : hs.Nodup) (hS : ∀ qs, Adr cs qs → S (.o r :: dds.map .d) qs cs (.raw (NewOs X.K n g)) cs') (hk : j ≤ k := by decide)
    (ht : eval (.Call (.Attribute o m p2) [] [] pos) X.env = (do
      let ov ← eval o X.env
      standAt p2.atName
      let (f, first) ← holding [ov] (getMethod ov m pl)
      callWith pos f first (backTo pos (starEach [] X.env)) (backToKw pos (keywordEach [] X.env))) := by rfl) : PI' X (.Call (.Attribute o m p2) [] [] pos) ρ n g (setSl hs (owns bs cs') ρ) := by
  obtain ⟨f, fd, ps, dd, fn, hm, bi, vv⟩ := cl.ex
  refine PE_imp (pe_methSD0 ho cl.cls hm fn (hr.mono hk) bi vv (fun σ => passE0 σ) ht) fun σ H Q ⟨C, F, se, q⟩ => ⟨⟨C, F, se⟩, ?_⟩
  obtain ⟨l, a1, _, ⟨dx, a2⟩, _⟩ := se.getO h0
  exact ⟨.ref l, a1, l, dx, fs, rfl, a2, hlk, run_G (vs := [.ref l]) (ar := [.o r]) se (.cons ⟨i, hrn, a1⟩ .nil) hd hsl hn hS fun v F2 H2 x2 e2 nw ⟨l, qs, ev, hl, io, hp⟩ => by
    subst ev
    exact q l qs F2 H2 x2 e2 hl io fun p hq => nw p (hp p hq)⟩
end
end G

/-! GOs3: fields given, instances made, given back, named; dicts locked while they are walked over. -/
namespace G
open PySem PySem.Spec PyProof.Rows L2
theorem setSl_un {gs : List Nat} {ss : List Sl} {ρ : En} (hn : gs.Nodup) (hl : ss.length = gs.length) : setSl gs ss (unSl gs ρ) = setSl gs ss ρ := by
  apply List.ext_getElem?
  intro j
  by_cases z : j ∈ gs
  · obtain ⟨k, hk, q⟩ := List.getElem_of_mem z
    have gk : gs[k]? = some j := by rw [List.getElem?_eq_getElem hk, q]
    have sk := List.getElem?_eq_getElem (show k < ss.length by rw [hl]; exact hk)
    by_cases hj : j < ρ.length
    · rw [setSl_at gs _ _ k j _ hn gk sk (by rw [unSl_len]; exact hj), setSl_at gs _ _ k j _ hn gk sk hj]
    · rw [List.getElem?_eq_none (by rw [setSl_len, unSl_len]; omega), List.getElem?_eq_none (by rw [setSl_len]; omega)]
  · rw [setSl_out gs _ _ j z, setSl_out gs _ _ j z, unSl_out _ _ j z]
theorem owns_len : ∀ (bs : List (Option Addr)) (cs : List Ct), bs.length = cs.length → (owns bs cs).length = cs.length
  | [], [], _ => rfl
  | _ :: bs, _ :: cs, h => by
    show (owns bs cs).length + 1 = cs.length + 1
    rw [owns_len bs cs (by simpa using h)]
  | [], _ :: _, h => by cases h
  | _ :: _, [], h => by cases h
/-- the contents name their addresses -/
def AdrG : List Addr → List Ct → Prop
  | [], [] => True
  | q :: qs, .g p _ :: cs => p = q ∧ AdrG qs cs
  | _, _ => False
theorem adr_eq : ∀ {qs qs' : List Addr} {cs : List Ct}, AdrG qs cs → Adr cs qs' → qs' = qs
  | [], qs', [], _, h => by cases qs' with
    | nil => rfl
    | cons q qs => exact h.elim
  | q :: qs, qs', .g p c :: cs, h1, h2 => by cases qs' with
    | nil => exact h2.elim
    | cons q' qs' =>
      obtain ⟨rfl, h1⟩ := h1
      obtain ⟨rfl, h2⟩ := h2
      rw [adr_eq h1 h2]
  | [], _, _ :: _, h, _ => h.elim
  | _ :: _, _, [], h, _ => h.elim
  | _ :: _, _, .l _ :: _, h, _ => h.elim
  | _ :: _, _, .d _ :: _, h, _ => h.elim
  | _ :: _, _, .t _ :: _, h, _ => h.elim
  | _ :: _, _, .n _ _ :: _, h, _ => h.elim
  | _ :: _, _, .f _ _ _ :: _, h, _ => h.elim
/-- a class's __init__ -/
def spI (K : PySem.W.Frag) (Cl : Addr) (S : List PyData → Nat → (List Addr → List Ct) → Prop) : Sp := fun vs H Q _ => ∃ F a dx vs' ds n f, vs = .ref a :: vs' ∧ Ex F H ∧ F a = none ∧ H a = some (.ins Cl dx []) ∧ RpA K F vs' ds ∧ S ds n f ∧
  ∀ qs F' H', GrM [a] F H F' H' → qs.length = n → Os K F' H' (a :: qs) (f qs) → (∀ q ∈ qs, H q = none) → Q .non H'
structure CalI (P : Program) (w : World) (K : PySem.W.Frag) (mg : Str → Option Value) (base : Heap) (k : Nat) (x : Str) (Cl : Addr) (sp : Sp) : Prop where
  ex : ∃ (f : Addr) (fd : FuncData) (ps : List Str), FnOk P w K mg base (L2N.CX P w) k f fd ps sp ∧ Mk K Cl f ∧ mg x = some (.ref Cl) ∧ Binds K fd ps []
/-- what is known at its end -/
def EndI (a : Addr) (gs : List Nat) (n : Nat) (f : List Addr → List Ct) (ρ : En) : Prop := ∃ qs, qs.length = n ∧ SlA (0 :: gs) (some a :: gs.map fun _ => none) (f qs) ρ ∧ AdrG qs (f qs).tail
section
variable {P : Program} {w : World} {K : PySem.W.Frag} {mg : Str → Option Value} {base : Heap} {x qual : Str} {fa : Addr} {fd : FuncData} {N prs : List Str} {k : Nat} {Cl : Addr}
theorem map_none {α : Type} {gs : List α} {k : Nat} {b : Option Addr} (h : (gs.map fun _ => (none : Option Addr))[k]? = some b) : b = none := by
  rw [List.getElem?_map] at h
  cases q : gs[k]? with
  | none => rw [q] at h; cases h
  | some g => rw [q] at h; cases h; rfl
theorem fn_I {params : Arguments} {body : List Stmt} {scope : Scope} {dvs : List V} {kws : List (Str × V)} {S : List PyData → Nat → (List Addr → List Ct) → Prop} (gs : List Nat) (Fn : FunD K x qual params body scope dvs kws fa fd) (Sc : FnScope N prs scope) (hlen : ∀ ds n f, S ds n f → ds.length + 1 = prs.length) (hN : prs.length ≤ N.length) (hgn : (0 :: gs).Nodup)
    (hb : ∀ (cdv : Value) (A : Around) (outer : List Env) (s : Shared) (H : Hp) (E : XK), Room k (A.deeper (envOfC qual scope s.heap.objs.size fa cdv)) → ∀ a ds n f, S ds n f →
      BD (cxOf (L2N.CX P w) P w K mg base N qual scope fa cdv A outer s H E) (WB E) body (pad N.length (.o (some a) (.n Cl []) :: ds.map .d)) { nx := EndI a gs n f }) :
    FnOk P w K mg base (L2N.CX P w) (k + 1) fa fd prs (spI K Cl S) := by
  refine Fn.ok Sc (fun vs H Q E ⟨F, a, dx, vs', ds, n, f, ev, _, _, _, rv, s, _⟩ => by rw [ev, List.length_cons, rv.length]; exact hlen _ _ _ s) fun cdv A outer s H vs Q E hr ⟨F, a, dx, vs', ds, n, f, ev, ex, fa', ha, rv, sr, rd⟩ => ?_
  subst ev
  refine ⟨_, hb cdv A outer s H E hr a ds n f sr, ⟨F, H, [a]⟩, F, ?_, ?_⟩
  · have hl : vs'.length + 1 ≤ N.length := by rw [rv.length, hlen _ _ _ sr]; exact hN
    have e0 : SE K ⟨F, H, [a]⟩ F H (L2.start N (.ref a :: vs')) (pad N.length (.un :: ds.map .d)) := by
      refine SE.base ex (by rw [start_len (by simpa using hl), pad_len (by rw [List.length_cons, List.length_map, ← rv.length]; exact hl)]) (fun i s h => ?_) (fun i s h => ?_) (fun b hb => by
        rw [List.mem_singleton.mp hb, ha]; exact fun z => nomatch z)
      · rw [start_get]
        rcases pad_get h with z | z
        · cases i with
          | zero => cases z; trivial
          | succ i =>
            rw [List.getElem?_cons_succ, List.getElem?_map] at z
            rw [List.getElem?_cons_succ]
            cases q : ds[i]? with
            | none => rw [q] at z; cases z
            | some d =>
              rw [q] at z; cases z
              obtain ⟨v, h1, h2⟩ := rv.get q
              exact ⟨v, h1, h2⟩
        · subst z; trivial
      · rcases pad_get h with z | z
        · cases i with
          | zero => cases z; rfl
          | succ i =>
            rw [List.getElem?_cons_succ, List.getElem?_map] at z
            cases q : ds[i]? with
            | none => rw [q] at z; cases z
            | some d => rw [q] at z; cases z; rfl
        · subst z; rfl
    have no0 : ∀ i b, ¬ Owns (L2.start N (.ref a :: vs')) (pad N.length (.un :: ds.map .d)) i b := fun i b ⟨_, s, h2, h3⟩ => by
      rcases pad_get h2 with z | z
      · cases i with
        | zero => cases z; cases h3
        | succ i =>
          rw [List.getElem?_cons_succ, List.getElem?_map] at z
          cases q : ds[i]? with
          | none => rw [q] at z; cases z
          | some d => rw [q] at z; cases z; cases h3
      · subst z; cases h3
    have e1 := e0.set (i := 0) (v := .ref a) (s := .o (some a) (.n Cl [])) ⟨a, rfl, .inr rfl, dx, ha⟩ (fun _ b hb => by
      cases hb
      exact ⟨fa', ne_none ha, .inr (List.mem_singleton.mpr rfl), fun j _ => no0 j a, fun c hc => by cases hc⟩)
    exact e1
  · refine ⟨fun ρ' F' H' σ' ⟨qs, h1, h2, h3⟩ s => ?_, fun _ _ _ _ _ _ z => z.elim, fun _ _ _ _ _ _ _ z => z.elim, fun _ _ _ _ z => z.elim, fun _ _ _ _ z => z.elim, fun _ _ _ _ _ _ z => z.elim, fun _ _ _ _ _ _ _ _ _ z => z.elim, fun _ _ _ _ _ _ z => z.elim⟩
    obtain ⟨qs', g, ad⟩ := got s h2
    have eq : qs' = a :: qs := by
      cases hf : f qs with
      | nil => rw [hf] at h2; exact h2.elim
      | cons c0 cs =>
        rw [hf] at g ad h3
        cases qs' with
        | nil => cases g.lc
        | cons q0 qs' =>
          obtain ⟨g0, b0, c0', x1, x2, x3, x4, x5, x6, x7, x8⟩ := g.at_ 0 q0 rfl
          cases x2
          have hq0 : q0 = a := by
            rcases x6 with z | z
            · cases z
            · exact (Option.some.inj z).symm
          cases x3
          subst hq0
          rw [hf] at h2
          rw [adr_eq h3 (show Adr cs qs' by cases c0 <;> first | exact ad | exact ad.2)]
    subst eq
    have os := g.os s hgn
    refine rd qs F' H' (.ofFr s.fr fun b hb => ?_) h1 os fun q hq => ?_
    · rw [List.mem_singleton.mp hb]; exact os.al a (List.mem_cons_self ..)
    · obtain ⟨k, hk, rfl⟩ := List.getElem_of_mem hq
      obtain ⟨g0, b0, c0', x1, x2, x3, x4, x5, x6, x7, x8⟩ := g.at_ (k + 1) qs[k] (by rw [List.getElem?_cons_succ, List.getElem?_eq_getElem hk])
      rw [List.getElem?_cons_succ] at x2
      have := map_none x2
      subst this
      exact s.fresh _ _ _ x5 x4
end
section
variable {X : Cx} {W : WX} {e a b c o : Expr} {es : List Expr} {p p2 pos pos' : Pos} {ρ ρ' ρ1 ρ2 ρ3 : En} {y z : PyData} {i j k n r : Nat} {x m f u w : Str} {D : DE} {rest : List Stmt}
  {hs : List Nat} {bs : List (Option Addr)} {cs cs' : List Ct} {ar : List Ar} {Cl : Addr} {fs : List (Str × V)} {pa pb : Option Addr} {cls : Value} {xs : List PyData} {ct ct' : Ct} {g : List Addr → List Ct}
theorem pi_make0 {S : List PyData → Nat → (List Addr → List Ct) → Prop} (cl : CalI X.prog X.w X.K X.mg X.base j x Cl (spI X.K Cl S)) (hr : Room k X.A) (hS : S [] n g) (hk : j + 1 ≤ k := by decide) (hg : Gl X x := by rfl) (hdb : (x == ("__debug__" : Str)) = false := by decide) : PI' X (.Call (.Name x p) [] [] pos) ρ n g ρ := by
  obtain ⟨fa, fd, ps, fn, mk, hm, bi⟩ := cl.ex
  refine PE_imp (pe_make0 mk fn (hr.mono hk) hg hm bi .nil (fun pins σ H s e s' I h => passE0 σ pins H s e s' I h) hdb) fun σ H Q ⟨C, F, se, q⟩ => ?_
  intro x dx hx hdx ne
  have nx : ∀ q, upd (upd H dx (.own x)) x (.ins Cl dx []) q = none → H q = none := fun q hq => by
    by_cases z : q = x
    · rw [z, upd_same] at hq; cases hq
    · rw [upd_ne z] at hq
      by_cases z2 : q = dx
      · rw [z2, upd_same] at hq; cases hq
      · rw [upd_ne z2] at hq; exact hq
  have old : ∀ q o, H q = some o → upd (upd H dx (.own x)) x (.ins Cl dx []) q = some o := fun q o hq => by
    rw [upd_ne (fun z => by rw [z, hx] at hq; cases hq), upd_ne (fun z => by rw [z, hdx] at hq; cases hq)]; exact hq
  refine ⟨F, x, dx, [], [], n, g, rfl, fun q o hq => old q o (se.fr.ext q o hq), se.fr.ext.none hx, upd_same, .nil, hS, fun qs F' H' gr hl os hq => ⟨rfl, ?_⟩⟩
  have g2 : Gr F H F' H' := ⟨gr.f, fun q o ho => gr.h q o (fun z => by rw [List.mem_singleton.mp z, hx] at ho; cases ho) (old q o ho), gr.fh, fun q h1 h2 => gr.new q (fun z => h1 (nx q z)) h2⟩
  refine q x qs F' H' gr.f (se.grow g2) hl os fun q hq' => ?_
  have hn : H q = none := by
    rcases List.mem_cons.mp hq' with rfl | z
    · exact hx
    · exact nx q (hq q z)
  exact ⟨se.fr.there q hn, not_owns_new se hn⟩
/-- x.f = a new object -/
theorem bd_fnew (i gh : Nat) (cl : Cls X.K Cl) (na : NoAttr X.K Cl f) (he : PN X e ρ ct ρ1) (ho : PV X o i ρ1) (hi : ρ1[i]? = some (.o pa (.n Cl fs))) (hl : fs.length < 1000) (hg : X.N[gh]? = some u) (hvu : ¬ Vis X.env.scope u)
    (h : ∀ p, BD X W rest ((ρ1.set i (.o pa (.n Cl (putF f (.ref p) fs)))).set gh (.o none (.g p ct))) D) (hs : swapsWith e (some (.Attribute o f p2)) pos.line X.env = pure false := by rfl) : BD X W (.Assign [.Attribute o f p2] e pos :: rest) ρ D := by
  have h2 : PSs X rest (fun E σ H => ∃ p, tD X.K W ((ρ1.set i (.o pa (.n Cl (putF f (.ref p) fs)))).set gh (.o none (.g p ct))) D E (σ.set gh (some (.ref p))) H) :=
    ⟨fun pins s σ H E I ⟨p, t⟩ => (h p).run pins s _ H E (Inv.ghost I hg hvu _) t⟩
  refine PSs_imp (pss_cons (ps_fld ho he hs) h2) fun E σ H ⟨C, F, se, cv⟩ => ⟨C, F, se, fun p F1 H1 x1 e1 fp h0 no ow => ?_⟩
  obtain ⟨l, a1, a2, ⟨dx, a3⟩, a4⟩ := e1.getO hi
  have npl : p ≠ l := fun z => no i (by rw [z]; exact a4)
  refine ⟨⟨C, F1, e1⟩, .ref l, a1, l, Cl, dx, fs, rfl, a3, cl, na, hl, p, C, F1, ?_, cv⟩
  have e2 := e1.wr (o := .ins Cl dx (putF f (.ref p) fs)) (c' := .n Cl (putF f (.ref p) fs)) hi a1 ⟨dx, upd_same⟩
  refine e2.setOwn fp h0 (fun j q => no j ?_) ⟨rfl, ow.grow (.refl _) fun o ho => by rw [upd_ne npl]; exact ho⟩
  obtain ⟨q1, s, q2, q3⟩ := q
  by_cases z : j = i
  · subst z; rw [a1] at q1; cases q1; exact a4
  · rw [List.getElem?_set_ne (Ne.symm z)] at q2; exact ⟨q1, s, q2, q3⟩
/-- x = an instance -/
theorem bd_setI (i : Nat) (gs : List Nat) (he : PI' X e ρ n g ρ1) (hf : ∀ qs : List Addr, qs.length = n → (g qs).length = n + 1) (hgl : gs.length = n) (hgn : (i :: gs).Nodup) (hgv : ∀ g ∈ gs, ∃ y, X.N[g]? = some y ∧ ¬ Vis X.env.scope y)
    (h : ∀ qs : List Addr, qs.length = n → BD X W rest (setSl (i :: gs) (owns ((i :: gs).map fun _ => none) (g qs)) ρ1) D) (hN : X.N.Nodup) (hi : X.N[i]? = some w := by rfl) (hx : Loc X.env.scope w := by first | exact Or.inl rfl | exact Or.inr rfl)
    (hfn : X.fn w = true ∨ X.env.scope.names.lookup w = some .local := by first | exact .inl rfl | exact .inr rfl) (hs : swapsWith e (some (.Name w pos')) pos.line X.env = pure false := by rfl) : BD X W (.Assign [.Name w pos'] e pos :: rest) ρ D := by
  have h2 : PSs X rest (fun E σ H => ∃ z : { qs : List Addr // qs.length = n }, tD X.K W (setSl (i :: gs) (owns ((i :: gs).map fun _ => none) (g z.1)) ρ1) D E (setSt gs (z.1.map fun p => some (.ref p)) σ) H) :=
    ⟨fun pins s σ H E I ⟨z, t⟩ => (h z.1 z.2).run pins s _ H E (ghostL gs _ I (List.nodup_cons.mp hgn).2 fun k g' v h1 _ => .inr (hgv g' (List.mem_of_getElem? h1))) t⟩
  refine PSs_imp (pss_cons (ps_set hN hi hx he hs hfn) h2) fun E σ H ⟨C, F, se, cv⟩ => ⟨C, F, se, fun q qs F1 H1 x1 e1 hl os hq => ?_⟩
  refine ⟨⟨qs, hl⟩, C, F1, ?_, cv⟩
  have hlen := hf qs hl
  have e2 := e1.le (unSl_le (i :: gs) ρ1)
  have nw : ∀ j p, Owns σ (unSl (i :: gs) ρ1) j p → j ∉ i :: gs ∧ Owns σ ρ1 j p := fun j p ⟨h1, s, h2, h3⟩ => by
    by_cases z : j ∈ i :: gs
    · have := unSl_in _ _ j s z h2
      subst this; cases h3
    · rw [unSl_out _ _ j z] at h2
      exact ⟨z, h1, s, h2, h3⟩
  have e3 := e2.setG (i :: gs) ((i :: gs).map fun _ => none) (q :: qs) (g qs) (by simp [hgl, hl]) (by simp [hgl, hl]) (by simp [hlen, hl]) hgn os.nd (fun g' hg a ha => (nw g' a ha).1 hg) (fun p hp j hj => (hq p hp).2 j (nw j p hj).2) (fun k p c b hp hc hb => by
    obtain ⟨q1, q2⟩ := os.own k p c hp hc
    have := map_none hb
    subst this
    have hp' := (hq p (List.mem_of_getElem? hp)).1
    exact ⟨q1, q2, .inl hp', .inl rfl, fun _ => hp'⟩)
  rw [setSl_un hgn (by rw [owns_len _ _ (by simp [hgl, hlen]), hlen, List.length_cons, hgl])] at e3
  exact e3
/-- return x, x a new instance of the body's own -/
theorem sd_retI (i : Nat) (gs : List Nat) (qs : List Addr) (hl : qs.length = n) (hsl : SlA (i :: gs) ((i :: gs).map fun _ => none) (g qs) ρ) (ha : AdrG qs (g qs).tail) (hgn : (i :: gs).Nodup) (h : D.rz (NewOs X.K n g) ρ)
    (hN : X.N[i]? = some w := by rfl) (hv : Vis X.env.scope w := by first | exact Or.inl rfl | exact Or.inr (Or.inl rfl) | exact Or.inr (Or.inr rfl)) (hd : (w == ("__debug__" : Str)) = false := by decide) (hcd : (w == ("__classdict__" : Str)) = false := by decide) : SD X W (.Return (some (.Name w pos')) pos) ρ D :=
  PS_imp (ps_ret (pe_var hN hv hd hcd)) fun E σ H ⟨C, F, se, cv⟩ => by
    obtain ⟨qs', gg, ad⟩ := got se hsl
    cases hf : g qs with
    | nil => rw [hf] at hsl; exact hsl.elim
    | cons c0 cs =>
      have ha' := ha
      rw [hf] at ha'
      have gg' := gg
      rw [hf] at gg' ad
      cases qs' with
      | nil => cases gg'.lc
      | cons q0 qs' =>
        have eq : qs' = qs := adr_eq ha' (show Adr cs qs' by cases c0 <;> first | exact ad | exact ad.2)
        subst eq
        obtain ⟨g0, b0, c0', x1, x2, x3, x4, x5, x6, x7, x8⟩ := gg.at_ 0 q0 rfl
        cases x1
        refine ⟨.ref q0, x4, cv.rz _ ρ (.ref q0) F H σ h se ⟨q0, qs', rfl, hl, gg.os se hgn, fun p hp => ?_⟩⟩
        obtain ⟨kk, hk, rfl⟩ := List.getElem_of_mem hp
        obtain ⟨g0, b0, c0', x1, x2, x3, x4, x5, x6, x7, x8⟩ := gg.at_ kk _ (List.getElem?_eq_getElem hk)
        have := map_none x2
        subst this
        exact se.fresh _ _ _ x5 x4
/-! ### locked dicts -/
def lk (od : Obj) (u : HO) : Ct → Ct
  | .g p c => .g p (lk od u c)
  | c => .f od u c
/-- a dict -/
inductive IsDc : Ct → Prop
  | d {ds : List (Key × PyData)} : IsDc (.d ds)
  | t {ts : List (List Key × PyData)} : IsDc (.t ts)
  | g {p : Addr} {c : Ct} : IsDc c → IsDc (.g p c)
theorem IsDc.lock {K : PySem.W.Frag} {F H : Hp} {l : Addr} {c : Ct} (d : IsDc c) (h : Own1 K F H l c) : ∃ u, H l = some u ∧ Mut (some u) ∧ ∀ od, Own1 K F (upd H l (.frz od u)) l (lk od u c) := by
  induction d with
  | d => obtain ⟨kvs, a, b⟩ := h; exact ⟨_, a, trivial, fun od => ⟨upd_same, b⟩⟩
  | t => obtain ⟨kvs, a, b⟩ := h; exact ⟨_, a, trivial, fun od => ⟨upd_same, b⟩⟩
  | g _ ih =>
    obtain ⟨u, a, b, c⟩ := ih h.2
    exact ⟨u, a, b, fun od => ⟨h.1, c od⟩⟩
theorem IsDc.unlock {K : PySem.W.Frag} {F H : Hp} {l : Addr} {c : Ct} {od : Obj} {u : HO} (d : IsDc c) (h : Own1 K F H l (lk od u c)) : H l = some (.frz od u) ∧ Own1 K F (upd H l u) l c := by
  induction d with
  | d =>
    obtain ⟨kvs, rfl, q⟩ := hoIs_d h.2
    exact ⟨h.1, kvs, upd_same, q⟩
  | t =>
    obtain ⟨kvs, rfl, q⟩ := hoIs_t h.2
    exact ⟨h.1, kvs, upd_same, q⟩
  | g _ ih =>
    obtain ⟨h1, h2⟩ := ih h.2
    exact ⟨h1, h.1, h2⟩
theorem pn_lock (n : Nat) (h0 : ρ[n]? = some (.o pa ct)) (hd : IsDc ct) (h : ∀ od u, PN X e (ρ.set n (.o pa (lk od u ct))) ct' (ρ2.set n (.o pa (lk od u ct)))) : PN X e ρ ct' (ρ2.set n (.o pa ct)) :=
  PE_imp (pe_lock (PE_ex fun z : Obj × HO => h z.1 z.2)) fun σ H Q ⟨C, F, se, q⟩ => by
    obtain ⟨l, a1, a2, a3, a4⟩ := se.getO h0
    obtain ⟨u, b1, b2, b3⟩ := hd.lock a3
    refine ⟨l, u, b1, b2, fun od => ⟨(od, u), C, F, se.wr h0 a1 (b3 od), fun p F' H' x' e' fp hp no ow => ?_⟩⟩
    have hn : n < ρ2.length := by
      have h1 := e'.len
      have h2 := se.len
      have h3 := (List.getElem?_eq_some_iff.mp h0).1
      rw [List.length_set] at h1
      omega
    have h1 : (ρ2.set n (.o pa (lk od u ct)))[n]? = some (.o pa (lk od u ct)) := List.getElem?_set_self hn
    obtain ⟨l', c1, c2, c3, c4⟩ := e'.getO h1
    rw [a1] at c1
    cases c1
    obtain ⟨d1, d2⟩ := hd.unlock c3
    have e2 := e'.wr h1 a1 d2
    rw [List.set_set] at e2
    have npl : p ≠ l := fun z => no n (by rw [z]; exact c4)
    refine ⟨d1, q p F' (upd H' l u) x' e2 fp hp (fun j w => no j ?_) (ow.grow (.refl _) fun o ho => by rw [upd_ne npl]; exact ho)⟩
    obtain ⟨w1, s, w2, w3⟩ := w
    by_cases z : j = n
    · subst z; rw [a1] at w1; cases w1; exact c4
    · rw [List.getElem?_set_ne (Ne.symm z)] at w2
      exact ⟨w1, s, by rw [List.getElem?_set_ne (Ne.symm z)]; exact w2, w3⟩
theorem pd_lock (n : Nat) (h0 : ρ[n]? = some (.o pa ct)) (hd : IsDc ct) (h : ∀ od u, PD X e (ρ.set n (.o pa (lk od u ct))) y (ρ2.set n (.o pa (lk od u ct)))) : PD X e ρ y (ρ2.set n (.o pa ct)) :=
  PE_imp (pe_lock (PE_ex fun z : Obj × HO => h z.1 z.2)) fun σ H Q ⟨C, F, se, q⟩ => by
    obtain ⟨l, a1, a2, a3, a4⟩ := se.getO h0
    obtain ⟨u, b1, b2, b3⟩ := hd.lock a3
    refine ⟨l, u, b1, b2, fun od => ⟨(od, u), C, F, se.wr h0 a1 (b3 od), fun v F' H' x' e' rp => ?_⟩⟩
    have hn : n < ρ2.length := by
      have h1 := e'.len
      have h2 := se.len
      have h3 := (List.getElem?_eq_some_iff.mp h0).1
      rw [List.length_set] at h1
      omega
    have h1 : (ρ2.set n (.o pa (lk od u ct)))[n]? = some (.o pa (lk od u ct)) := List.getElem?_set_self hn
    obtain ⟨l', c1, c2, c3, c4⟩ := e'.getO h1
    rw [a1] at c1
    cases c1
    obtain ⟨d1, d2⟩ := hd.unlock c3
    have e2 := e'.wr h1 a1 d2
    rw [List.set_set] at e2
    exact ⟨d1, q v F' (upd H' l u) x' e2 rp⟩
/-- what is known of the slot: a locked dict -/
inductive LD : Ct → List (Key × PyData) → Prop
  | f {od : Obj} {u : HO} {ds : List (Key × PyData)} : LD (.f od u (.d ds)) ds
  | g {p : Addr} {c : Ct} {ds : List (Key × PyData)} : LD c ds → LD (.g p c) ds
inductive LT : Ct → List (List Key × PyData) → Prop
  | f {od : Obj} {u : HO} {ds : List (List Key × PyData)} : LT (.f od u (.t ds)) ds
  | g {p : Addr} {c : Ct} {ds : List (List Key × PyData)} : LT c ds → LT (.g p c) ds
theorem LD.get {K : PySem.W.Frag} {F H : Hp} {l : Addr} {c : Ct} {ds : List (Key × PyData)} (d : LD c ds) (h : Own1 K F H l c) : ∃ od kvs, H l = some (.frz od (.dK kvs)) ∧ KvA K F kvs ds := by
  induction d with
  | f => obtain ⟨kvs, rfl, q⟩ := hoIs_d h.2; exact ⟨_, kvs, h.1, q⟩
  | g _ ih => exact ih h.2
theorem LT.get {K : PySem.W.Frag} {F H : Hp} {l : Addr} {c : Ct} {ds : List (List Key × PyData)} (d : LT c ds) (h : Own1 K F H l c) : ∃ od kvs, H l = some (.frz od (.dT kvs)) ∧ KvA K F kvs ds := by
  induction d with
  | f => obtain ⟨kvs, rfl, q⟩ := hoIs_t h.2; exact ⟨_, kvs, h.1, q⟩
  | g _ ih => exact ih h.2
/-- the locked thing is just so -/
inductive FO : Ct → Obj → HO → Prop
  | f {od : Obj} {u : HO} {c : Ct} : FO (.f od u c) od u
  | g {p : Addr} {c : Ct} {od : Obj} {u : HO} : FO c od u → FO (.g p c) od u
theorem FO.at_ {K : PySem.W.Frag} {F H : Hp} {l : Addr} {c : Ct} {od : Obj} {u : HO} (d : FO c od u) (h : Own1 K F H l c) : H l = some (.frz od u) := by
  induction d with
  | f => exact h.1
  | g _ ih => exact ih h.2
theorem LD.fo {K : PySem.W.Frag} {c : Ct} {ds : List (Key × PyData)} (d : LD c ds) : ∃ od u, FO c od u := by
  induction d with
  | f => exact ⟨_, _, .f⟩
  | g _ ih => obtain ⟨od, u, h⟩ := ih; exact ⟨od, u, .g h⟩
theorem LT.fo {K : PySem.W.Frag} {c : Ct} {ds : List (List Key × PyData)} (d : LT c ds) : ∃ od u, FO c od u := by
  induction d with
  | f => exact ⟨_, _, .f⟩
  | g _ ih => obtain ⟨od, u, h⟩ := ih; exact ⟨od, u, .g h⟩
theorem id_fk {tg : Expr} {ds : List (Key × PyData)} (n : Nat) (ho : PV X e n ρ) (h0 : ρ[n]? = some (.o pa ct)) (d : LD ct ds) : ID X tg e ρ (ds.map fun p => kD p.1) (fun r => r[n]? = some (.o pa ct)) (some n) ρ := PI_imp (pi_keys ho) fun σ H R ⟨C, F, se, q⟩ => by
  obtain ⟨l, a1, a2, a3, a4⟩ := se.getO h0
  obtain ⟨od, kvs, b1, b2⟩ := d.get a3
  obtain ⟨od', u', fo⟩ := d.fo (K := X.K)
  have b1' := fo.at_ a3
  rw [b1] at b1'
  cases b1'
  have hl := b2.len
  have key : ∀ C F2 H2 σ2 ρ2, SE X.K C F2 H2 σ2 ρ2 → ρ2[n]? = some (.o pa ct) → (∀ j, some n = some j → σ2[j]? = σ[j]?) → H2 l = some (.frz od (.dK kvs)) := fun C F2 H2 σ2 ρ2 e2 ok2 hs => by
    obtain ⟨l', c1, _, c3, _⟩ := e2.getO ok2
    rw [hs n rfl, a1] at c1
    cases c1
    exact fo.at_ c3
  refine ⟨⟨C, F, se⟩, .ref l, a1, l, od, rfl, .inl ⟨kvs, b1, q _ F H (.refl _) se ⟨fun i C F2 H2 σ2 ρ2 x2 e2 ok2 hs hi => ?_, fun C F2 H2 σ2 ρ2 x2 e2 ok2 hs => ?_, fun i C F2 H2 σ2 ρ2 v H3 x2 e2 ok2 hs hi y => ?_⟩⟩⟩
  · exact walk_keys.goes i H2 (by rw [List.length_map] at hi; omega) (key C F2 H2 σ2 ρ2 e2 ok2 hs)
  · rw [List.length_map, ← hl]; exact walk_keys.stops H2 (key C F2 H2 σ2 ρ2 e2 ok2 hs)
  · obtain ⟨rfl, k, v0, h3, rfl⟩ := walk_keys.yields i H2 v H3 (by rw [List.length_map] at hi; omega) (key C F2 H2 σ2 ρ2 e2 ok2 hs) y
    obtain ⟨d, h4, h5⟩ := b2.get h3
    exact ⟨kD k, F2, by rw [List.getElem?_map, h4]; rfl, .refl _, e2, key_rp k⟩
theorem id_fkT {tg : Expr} {ts : List (List Key × PyData)} (n : Nat) (ho : PV X e n ρ) (h0 : ρ[n]? = some (.o pa ct)) (d : LT ct ts) : ID X tg e ρ (ts.map fun p => kDs p.1) (fun r => r[n]? = some (.o pa ct)) (some n) ρ := PI_imp (pi_keys ho) fun σ H R ⟨C, F, se, q⟩ => by
  obtain ⟨l, a1, a2, a3, a4⟩ := se.getO h0
  obtain ⟨od, kvs, b1, b2⟩ := d.get a3
  obtain ⟨od', u', fo⟩ := d.fo (K := X.K)
  have b1' := fo.at_ a3
  rw [b1] at b1'
  cases b1'
  have hl := b2.len
  have key : ∀ C F2 H2 σ2 ρ2, SE X.K C F2 H2 σ2 ρ2 → ρ2[n]? = some (.o pa ct) → (∀ j, some n = some j → σ2[j]? = σ[j]?) → H2 l = some (.frz od (.dT kvs)) := fun C F2 H2 σ2 ρ2 e2 ok2 hs => by
    obtain ⟨l', c1, _, c3, _⟩ := e2.getO ok2
    rw [hs n rfl, a1] at c1
    cases c1
    exact fo.at_ c3
  refine ⟨⟨C, F, se⟩, .ref l, a1, l, od, rfl, .inr ⟨kvs, b1, q _ F H (.refl _) se ⟨fun i C F2 H2 σ2 ρ2 x2 e2 ok2 hs hi => ?_, fun C F2 H2 σ2 ρ2 x2 e2 ok2 hs => ?_, fun i C F2 H2 σ2 ρ2 v H3 x2 e2 ok2 hs hi y => ?_⟩⟩⟩
  · exact walk_keysT.goes i H2 (by rw [List.length_map] at hi; omega) (key C F2 H2 σ2 ρ2 e2 ok2 hs)
  · rw [List.length_map, ← hl]; exact walk_keysT.stops H2 (key C F2 H2 σ2 ρ2 e2 ok2 hs)
  · obtain ⟨rfl, k, v0, b, h3, rfl, hb⟩ := walk_keysT.yields i H2 v H3 (by rw [List.length_map] at hi; omega) (key C F2 H2 σ2 ρ2 e2 ok2 hs) y
    obtain ⟨d, h4, h5⟩ := b2.get h3
    have h6 : (ts.map fun p => kDs p.1)[i]? = some (kDs k) := by rw [List.getElem?_map, h4]; rfl
    cases hF : F2 b with
    | none => exact ⟨kDs k, _, h6, .new hF, e2.frzT hb hF, .tup upd_same (keys_rpa k)⟩
    | some u =>
      have hu := e2.fr.ext _ _ hF
      rw [hb] at hu
      cases hu
      exact ⟨kDs k, F2, h6, .refl _, e2, .tup hF (keys_rpa k)⟩
/-- list(..) of an own list -/
theorem pn_listF (n : Nat) (hm : X.mg ("list" : Str) = none) (ho : PV X a n ρ) (h0 : ρ[n]? = some (.o pa ct)) (l : LK ct xs) (hg : Gl X "list" := by rfl) (he : starEach [a] X.env = (false, eval a X.env) :: starEach [] X.env := by rfl) : PN X (.Call (.Name "list" p) [a] [] pos) ρ (.l xs) ρ :=
  PE_imp (pe_callTy call_list_of hg hm rfl (pa_cons ho pa_nil he) (by decide) (by decide) he) fun σ H Q ⟨C, F, se, q⟩ => by
    obtain ⟨al, a1, _, a3, a4⟩ := se.getO h0
    obtain ⟨vs, b1, b2⟩ := l.lst a3
    refine ⟨⟨C, F, se⟩, .ref al, a1, al, vs, rfl, .inl (SqL.of b1), fun p hp => ?_⟩
    obtain ⟨h1, h2, h3, h4⟩ := se.lay (o := .lst vs) hp
    exact q p F _ (.refl _) h1 h2 h3 h4 ⟨vs, upd_same, b2⟩
end
end G

/-! GOs4: own dicts in words of types: keys walked over, looked up while locked; texts ordered. -/
namespace G
open PySem PySem.Spec PyProof.Rows L2
section
variable {X : Cx} {tg e : Expr} {ρ : En} {κ α : Type} [DecidableEq κ] {ky : κ → Key} {kt : κ → List Key} {f : α → PyData} {td : κ → PyData} {m : List (κ × α)} {pa : Option Addr} {ct : Ct} {od : Obj} {u : HO} {y : PyData} {v : α}
theorem id_fd (n : Nat) (ht : ∀ k, td k = kD (ky k)) (ho : PV X e n ρ) (h0 : ρ[n]? = some (.o pa ct)) (d : LD ct (m.map fun p => (ky p.1, f p.2))) : ID X tg e ρ ((m.map (·.1)).map td) (fun r => r[n]? = some (.o pa ct)) (some n) ρ := by
  have q := id_fk (tg := tg) n ho h0 d
  rw [List.map_map] at q ⊢
  have e1 : (m.map ((fun p : Key × PyData => kD p.1) ∘ fun p => (ky p.1, f p.2))) = m.map (td ∘ fun p => p.1) := List.map_congr_left fun p _ => (ht p.1).symm
  rw [e1] at q
  exact q
theorem id_ft (n : Nat) (ht : ∀ k, td k = kDs (kt k)) (ho : PV X e n ρ) (h0 : ρ[n]? = some (.o pa ct)) (d : LT ct (m.map fun p => (kt p.1, f p.2))) : ID X tg e ρ ((m.map (·.1)).map td) (fun r => r[n]? = some (.o pa ct)) (some n) ρ := by
  have q := id_fkT (tg := tg) n ho h0 d
  rw [List.map_map] at q ⊢
  have e1 : (m.map ((fun p : List Key × PyData => kDs p.1) ∘ fun p => (kt p.1, f p.2))) = m.map (td ∘ fun p => p.1) := List.map_congr_left fun p _ => (ht p.1).symm
  rw [e1] at q
  exact q
variable {κ : Type} [DecidableEq κ] {ky : κ → Key} {kt : κ → List Key} {m : List (κ × α)} {k : κ}
theorem dk_lt (hk : ∀ a b, kt a = kt b → a = b) (m : List (κ × α)) (k : κ) (hy : kDs (kt k) = y := by rfl) : DK (.f od u (oT kt f m)) y ((gv m k).map f) := by
  subst hy
  rw [← gv_map (ky := kt) hk]
  exact .ft
theorem dk_ld (hk : ∀ a b, ky a = ky b → a = b) (m : List (κ × α)) (k : κ) (hy : kD (ky k) = y := by rfl) : DK (.f od u (oD ky f m)) y ((gv m k).map f) := by
  subst hy
  rw [← gv_map (ky := ky) hk]
  exact .fd
/-- what the key has is known -/
theorem dk_lts (hk : ∀ a b, kt a = kt b → a = b) (h : gv m k = some v) (hy : kDs (kt k) = y := by rfl) : DK (.f od u (oT kt f m)) y (some (f v)) := by
  have := dk_lt (od := od) (u := u) (f := f) hk m k hy
  rwa [h] at this
theorem dk_ts (hk : ∀ a b, kt a = kt b → a = b) (h : gv m k = some v) (hy : kDs (kt k) = y := by rfl) : DK (oT kt f m) y (some (f v)) := by
  have := dk_t (f := f) hk m k hy
  rwa [h] at this
theorem dk_lds (hk : ∀ a b, ky a = ky b → a = b) (h : gv m k = some v) (hy : kD (ky k) = y := by rfl) : DK (.f od u (oD ky f m)) y (some (f v)) := by
  have := dk_ld (od := od) (u := u) (f := f) hk m k hy
  rwa [h] at this
theorem dk_ds (hk : ∀ a b, ky a = ky b → a = b) (h : gv m k = some v) (hy : kD (ky k) = y := by rfl) : DK (oD ky f m) y (some (f v)) := by
  have := dk_d (f := f) hk m k hy
  rwa [h] at this
end
theorem ltd_as : LtD dAs (fun a b => ltS a.1 b.1) := ⟨fun _ _ => rfl, fun a b => PySem.W.dataLt_str a.1 b.1⟩
end G

/-! GOs5: a call that reads an own list as data. -/
namespace G
open PySem PySem.Spec PyProof.Rows L2
def lnd (xs : List PyData) : Ar → PyData
  | .d y => y
  | .o _ => .list xs
theorem lnd_rp {K : PySem.W.Frag} {F F' : Hp} {σ : L2.St} {n : Nat} {l : Addr} {xs : List PyData} (x : Ex F F') (hl : σ[n]? = some (some (.ref l))) (r : Rp K F' (.ref l) (.list xs)) : ∀ {vs : List V} {ar : List Ar}, ArSs K F σ [n] vs ar → RpA K F' vs (ar.map (lnd xs))
  | _, _, .nil => .nil
  | _, _, .cons (v := v) (a := a) h t => by
    refine .cons ?_ (lnd_rp x hl r t)
    cases a with
    | d y => exact Rp.mono x h
    | o k =>
      obtain ⟨m, h1, h2⟩ := h
      have e : m = n := by
        cases k with
        | zero => exact (Option.some.inj h1).symm
        | succ k => simp at h1
      subst e
      rw [hl] at h2
      cases h2
      exact r
section
variable {X : Cx} {e : Expr} {es : List Expr} {p pos : Pos} {ρ ρ1 : En} {j k : Nat} {x : Str} {dvs : List V} {dds xs : List PyData} {ar : List Ar} {pb : Option Addr} {ct : Ct} {b : Bool}
theorem pd_callL {S : List PyData → Res → Prop} (n : Nat) (cl : Cal X.prog X.w X.K X.mg X.base j x (spD X.K S) dvs) (hr : Room k X.A) (hd : Dfs dvs dds) (ha : AG X [n] (e :: es) ρ ar ρ1) (h1 : ρ1[n]? = some (.o pb ct)) (lk : LK ct xs) (hS : S (ar.map (lnd xs) ++ dds) (.ret (.bool b))) (hk : j ≤ k := by decide) (hg : Gl X x := by rfl)
    (hdb : (x == ("__debug__" : Str)) = false := by decide) (he : starEach (e :: es) X.env = (false, eval e X.env) :: starEach es X.env := by rfl) (hpl : (backTo pos (starEach es X.env)).any (·.1) = false := by rfl) :
    PD X (.Call (.Name x p) (e :: es) [] pos) ρ (.bool b) ρ1 := by
  obtain ⟨f, fd, ps, dd, fn, hm, kp, bi, vv⟩ := cl.ex
  refine PE_imp (pe_callSD fn (hr.mono hk) hg hm kp bi vv (fun σ => passE0 σ) ha hdb he hpl) fun σ H Q ⟨C, F, se, q⟩ => ⟨C, F, se, fun vs F1 H1 x1 e1 r1 => ?_⟩
  obtain ⟨l, a1, _, a3, a4⟩ := e1.getO h1
  obtain ⟨us, b1, b2⟩ := lk.lst a3
  have fl := (e1.own n l a4).1
  have xF : Ex F1 (upd F1 l (.lst us)) := .new fl
  have xH : Ex (upd F1 l (.lst us)) H1 := fun a u hu => by
    by_cases z : a = l
    · rw [z, upd_same] at hu; rw [z, b1]; exact hu
    · rw [upd_ne z] at hu; exact e1.fr.ext a u hu
  have r : Rp X.K (upd F1 l (.lst us)) (.ref l) (.list xs) := .lst (SqL.of upd_same) (b2.mono xF)
  refine ⟨upd F1 l (.lst us), _, _, xH, (lnd_rp xF a1 r r1).append hd.rp, hS, fun v F2 H2 g rv => ?_⟩
  refine q v F1 H2 x1 (e1.grow ⟨.refl _, g.h, e1.fr.ext.trans g.h, fun _ _ h => .inl h⟩) ?_
  rw [rp_bool rv]
  exact .bl b
end
end G

/-! GTry3: try .. except C1 as n: a suite that reads n.f, except C2 as n: suite. -/
namespace G
open PySem PySem.Spec PyProof.Rows L2 L2N
def tFR (i : Nat) (C : Addr) (f : Str) (g : Str → Str) (ok : Str → Prop) (a : Addr) (cls : Value) (d : Option Addr) : TS := fun E σ H => (∃ σ0 : L2.St, σ = σ0.set i (some (.ref a))) ∧ cls = .ref C ∧ ∃ dd vs r, d = some dd ∧ H dd = some (.xd vs) ∧ vs.lookup f = some (.str r) ∧ ok r ∧ E.rt (.str (g r)) H
section
variable {X : Cx} {W : WX} {body suite suite1 : List Stmt} {b₀ b₁ : Stmt} {D : DE} {ρ : En} {n w1 w2 f pre : Str} {C1 : Addr} {c2 : Value} {np np2 p1 p2 p3 p4 pos pos' pos2 pq : Pos} {j1 : _} {g : Str → Str} {ok : Str → Prop}
/-- return 'pre' + n.f -/
theorem pre_suite (i : Nat) (xf : XfC X.K C1) (noF : PySem.W.findIn X.K (.ref C1) f = some none) (hi : X.N[i]? = some n) (hln : X.env.kindOf n = some .local) (hd : (n == ("__debug__" : Str)) = false) (hcd : (n == ("__classdict__" : Str)) = false)
    (a : Addr) (oe : Obj) (cls : Value) (d : Option Addr) (pn : List (Addr × Obj)) (hz : L2N.Zn cls d oe) (hv : ∃ vs, oe.data = .fields vs) (hb : attributeBase (.Name n p1) f X.env (eval (.Name n p1) X.env) = eval (.Name n p1) X.env := by rfl) :
    PSs (X.suite a ((a, oe) :: pn)) [.Return (some (.BinOp (.Constant (.str pre) j1 p3) .Add (.Attribute (.Name n p1) f p2) p4)) pos] (tFR i C1 f (fun r => pre ++ r) (fun r => pre.length + r.length ≤ sizeLine) a cls d) := by
  have h1 : PE (X.suite a ((a, oe) :: pn)) (.Name n p1) (tVar i) := pe_var (X := X.suite a ((a, oe) :: pn)) hi (Or.inl hln) hd hcd
  have h2 := pe_xf (X := X) (pos := p2) xf noF hz.zc hv h1 hb
  have h3 := pe_op (X := X.suite a ((a, oe) :: pn)) (pos := p4) op_add_str (pe_str (x := pre) (j := j1) (pos := p3)) h2
  have h4 := pss_one (ps_ret (pos := pos) h3)
  refine ⟨fun pins s σ H E I ⟨⟨σ0, e⟩, e2, dd, vs, r, e3, e4, e5, e6, e7⟩ => h4.run pins s σ H E I ?_⟩
  have hl : σ.length = X.N.length := I.len
  have hn : i < X.N.length := (List.getElem?_eq_some_iff.mp hi).1
  subst e
  rw [List.length_set] at hl
  exact ⟨.ref a, by rw [List.getElem?_set_self (by omega)], rfl, e2, dd, vs, .str r, e3, e4, e5, pre, r, rfl, rfl, e6, e7⟩
theorem sd_try_fr (i : Nat) (M : Value → List (Str × PyData) → En → Prop) (hs : X.stack = X.env :: X.outer) (hf : X.env.frame = some X.env.locals) (hN : X.N.Nodup) (hc1 : Names X w1 (.ref C1)) (hc2 : Names X w2 c2) (tk : L2N.Takes X W)
    (hb : ∀ (W : WX) (pn : List (Addr × Obj)) (xe : Value → Shared → Prop), L2N.Takes (X.tr pn xe) W → PassesOwn (model X.prog X.w) X.A X.env xe → BD (X.tr pn xe) W body ρ { D with ex := M })
    (hs1 : ∀ (a : Addr) (oe : Obj) (cls : Value) (d : Option Addr) (pn : List (Addr × Obj)), L2N.Zn cls d oe → (∃ vs, oe.data = .fields vs) → PSs (X.suite a ((a, oe) :: pn)) (b₁ :: suite1) (tFR i C1 f g ok a cls d))
    (hh : ∀ cls fs ρ', M cls fs ρ' → (PySem.W.exmOne X.K cls (.ref C1) = some true ∧ cls = .ref C1 ∧ ∃ r : Str, fs = [(f, .str r)] ∧ ok r ∧ ∀ a, D.rt (.str (g r)) (ρ'.set i (.v (.ref a)))) ∨
      (PySem.W.exmOne X.K cls (.ref C1) = some false ∧ ∃ b, PySem.W.exmOne X.K cls c2 = some b ∧ (b = true → fs = [] ∧ ∀ (a : Addr) (oe : Obj) (d : Option Addr) (pn : List (Addr × Obj)), L2N.Zn cls d oe → (∃ vs, oe.data = .fields vs) → d = none → BD (X.suite a ((a, oe) :: pn)) W0 (b₀ :: suite) (ρ'.set i (.v (.ref a))) (hdD D i)) ∧ (b = false → D.ex cls fs ρ')))
    (hi : X.N[i]? = some n := by rfl) (hln : X.env.kindOf n = some .local := by rfl) (hd : (n == ("__debug__" : Str)) = false := by decide) (hcd : (n == ("__classdict__" : Str)) = false := by decide) :
    SD X W (.Try body [.ExceptHandler (some (.Name w1 np)) (some n) (b₁ :: suite1) pos', .ExceptHandler (some (.Name w2 np2)) (some n) (b₀ :: suite) pos2] [] [] pq) ρ D := by
  have hsu : ∀ (a : Addr) (oe : Obj) (cls : Value) (d : Option Addr) (pn : List (Addr × Obj)), L2N.Zn cls d oe → (∃ vs, oe.data = .fields vs) → PSs (X.suite a ((a, oe) :: pn)) (b₀ :: suite)
      (fun E σ H => ∃ q : { q : List (Str × PyData) × En // M cls q.1 q.2 ∧ PySem.W.exmOne X.K cls (.ref C1) = some false ∧ PySem.W.exmOne X.K cls c2 = some true ∧ d = none }, tD X.K W0 (q.1.2.set i (.v (.ref a))) (hdD D i) E σ H) := fun a oe cls d pn hz hv => PSs_ex fun q => by
    rcases hh cls q.1.1 q.1.2 q.2.1 with ⟨h0, _⟩ | ⟨_, b, h1, h2, _⟩
    · rw [q.2.2.1] at h0; cases h0
    · rw [q.2.2.2.1] at h1
      cases h1
      exact (h2 rfl).2 a oe d pn hz hv q.2.2.2.2
  refine PS_imp (ps_try_asM hs hf hN hi hln tk (tb := fun W => tD X.K W ρ { D with ex := M }) (fun W pn xe t p => hb W pn xe t p) (.cons hc1 hs1 (.cons hc2 hsu .nil))) fun E σ H ⟨C, F, se, cv⟩ => ⟨C, F, se, ?_⟩
  refine ⟨cv.nx, cv.rt, fun cls fs ρ' d F' H' σ' m s r => ?_, cv.bk, cv.ct, cv.rn, cv.rq, cv.rz⟩
  rcases hh cls fs ρ' m with ⟨h1, h2, rr, rfl, h0, h3⟩ | ⟨h1, b, h2, h3, h4⟩
  · refine ⟨true, h1, fun _ a na => ?_, fun z => nomatch z⟩
    cases d with
    | none => cases (show [(f, PyData.str rr)] = [] from r)
    | some dd =>
      obtain ⟨_, vs, e1, e2, e3⟩ := r
      have : vs = [(f, V.str rr)] := by
        match vs, e2, e3 with
        | [(g, v)], e2, e3 =>
          cases e2
          cases e3 with
          | cons r1 _ => rw [show v = V.str rr from rp_str r1]
      subst this
      have s2 := s.setV i (.ref a)
      refine ⟨⟨σ', rfl⟩, h2, dd, _, rr, rfl, e1, ?_, h0, cv.rt _ _ _ F' H' _ (h3 a) s2 (.str _)⟩
      show (match (f == f) with | true => some (V.str rr) | false => none) = _
      rw [beq_self_eq_true]
  · refine ⟨false, h1, fun z => (nomatch z), fun _ => ⟨b, h2, fun hb1 a na => ?_, fun hb0 => cv.ex cls fs ρ' d F' H' σ' (h4 hb0) s r⟩⟩
    subst hb1
    obtain ⟨e0, _⟩ := h3 rfl
    subst e0
    cases d with
    | some dd => exact absurd rfl r.1
    | none =>
      refine ⟨⟨([], ρ'), m, h1, h2, rfl⟩, C, F', s.setV i _, ?_⟩
      exact ⟨fun r F2 H2 σ2 q s2 => cv.nx _ F2 H2 _ q (s2.unset i), cv.rt, fun _ _ _ _ _ _ _ z => z.elim, fun r F2 H2 σ2 q s2 => cv.bk _ F2 H2 _ q (s2.unset i), fun r F2 H2 σ2 q s2 => cv.ct _ F2 H2 _ q (s2.unset i), cv.rn, cv.rq, cv.rz⟩
end
end G

namespace GP
open PySem PySem.Spec PyProof.Rows L2 G
/-! ### the text -/
def metS (i j : Nat) : Stmt := match PySem.Challenge.pw_grainhaul_k63_ledgers_add_up.main.body.getD i (.Pass ⟨0, 0, 0, 0⟩) with | .ClassDef _ _ _ b _ _ _ _ _ _ _ => b.getD j (.Pass ⟨0, 0, 0, 0⟩) | _ => .Pass ⟨0, 0, 0, 0⟩
def topS (i : Nat) : Stmt := PySem.Challenge.pw_grainhaul_k63_ledgers_add_up.main.body.getD i (.Pass ⟨0, 0, 0, 0⟩)
abbrev s_Ledger___init__ : Stmt := metS 14 0
abbrev n_Ledger___init__ : List Str := [("self" : Str), ("self._owed" : Str), ("self._log" : Str)]
theorem sc_Ledger___init__ : FnScope n_Ledger___init__ [("self" : Str)] (defScope s_Ledger___init__) := ⟨rfl, rfl, rfl, by decide +kernel, rfl, by decide +kernel, by decide +kernel⟩
def d_Ledger___init__ : He.DefD := ⟨("Ledger", some "__init__"), "__init__", "Ledger.__init__", defArgs s_Ledger___init__, defBody s_Ledger___init__, defScope s_Ledger___init__, [], []⟩
abbrev s_is_name : Stmt := topS 9
abbrev n_is_name : List Str := [("word" : Str), ("sign" : Str)]
theorem sc_is_name : FnScope n_is_name [("word" : Str)] (defScope s_is_name) := ⟨rfl, rfl, rfl, by decide +kernel, rfl, by decide +kernel, by decide +kernel⟩
def d_is_name : He.DefD := ⟨("is_name", none), "is_name", "is_name", defArgs s_is_name, defBody s_is_name, defScope s_is_name, [], []⟩
abbrev s_checked_name : Stmt := topS 10
abbrev n_checked_name : List Str := [("word" : Str)]
theorem sc_checked_name : FnScope n_checked_name [("word" : Str)] (defScope s_checked_name) := ⟨rfl, rfl, rfl, by decide +kernel, rfl, by decide +kernel, by decide +kernel⟩
def d_checked_name : He.DefD := ⟨("checked_name", none), "checked_name", "checked_name", defArgs s_checked_name, defBody s_checked_name, defScope s_checked_name, [], []⟩
abbrev s_is_number : Stmt := topS 11
abbrev n_is_number : List Str := [("value" : Str), ("least" : Str), ("most" : Str)]
theorem sc_is_number : FnScope n_is_number [("value" : Str), ("least" : Str), ("most" : Str)] (defScope s_is_number) := ⟨rfl, rfl, rfl, by decide +kernel, rfl, by decide +kernel, by decide +kernel⟩
def d_is_number : He.DefD := ⟨("is_number", none), "is_number", "is_number", defArgs s_is_number, defBody s_is_number, defScope s_is_number, [.int 0, .int 1000000], []⟩
abbrev s_checked_number : Stmt := topS 12
abbrev n_checked_number : List Str := [("value" : Str), ("least" : Str), ("most" : Str)]
theorem sc_checked_number : FnScope n_checked_number [("value" : Str), ("least" : Str), ("most" : Str)] (defScope s_checked_number) := ⟨rfl, rfl, rfl, by decide +kernel, rfl, by decide +kernel, by decide +kernel⟩
def d_checked_number : He.DefD := ⟨("checked_number", none), "checked_number", "checked_number", defArgs s_checked_number, defBody s_checked_number, defScope s_checked_number, [.int 0, .int 1000000], []⟩
abbrev s_Ledger_lend : Stmt := metS 14 1
abbrev n_Ledger_lend : List Str := [("self" : Str), ("lender" : Str), ("debtor" : Str), ("amount" : Str), ("self._owed" : Str), ("self._log" : Str)]
theorem sc_Ledger_lend : FnScope n_Ledger_lend [("self" : Str), ("lender" : Str), ("debtor" : Str), ("amount" : Str)] (defScope s_Ledger_lend) := ⟨rfl, rfl, rfl, by decide +kernel, rfl, by decide +kernel, by decide +kernel⟩
def d_Ledger_lend : He.DefD := ⟨("Ledger", some "lend"), "lend", "Ledger.lend", defArgs s_Ledger_lend, defBody s_Ledger_lend, defScope s_Ledger_lend, [], []⟩
abbrev s_Ledger_owed : Stmt := metS 14 4
abbrev n_Ledger_owed : List Str := [("self" : Str), ("debtor" : Str), ("lender" : Str), ("self._owed" : Str), ("self._log" : Str)]
theorem sc_Ledger_owed : FnScope n_Ledger_owed [("self" : Str), ("debtor" : Str), ("lender" : Str)] (defScope s_Ledger_owed) := ⟨rfl, rfl, rfl, by decide +kernel, rfl, by decide +kernel, by decide +kernel⟩
def d_Ledger_owed : He.DefD := ⟨("Ledger", some "owed"), "owed", "Ledger.owed", defArgs s_Ledger_owed, defBody s_Ledger_owed, defScope s_Ledger_owed, [], []⟩
abbrev s_Ledger_pass_on : Stmt := metS 14 3
abbrev n_Ledger_pass_on : List Str := [("self" : Str), ("debtor" : Str), ("lender" : Str), ("other" : Str), ("amount" : Str), ("self._owed" : Str), ("self._log" : Str)]
theorem sc_Ledger_pass_on : FnScope n_Ledger_pass_on [("self" : Str), ("debtor" : Str), ("lender" : Str), ("other" : Str), ("amount" : Str)] (defScope s_Ledger_pass_on) := ⟨rfl, rfl, rfl, by decide +kernel, rfl, by decide +kernel, by decide +kernel⟩
def d_Ledger_pass_on : He.DefD := ⟨("Ledger", some "pass_on"), "pass_on", "Ledger.pass_on", defArgs s_Ledger_pass_on, defBody s_Ledger_pass_on, defScope s_Ledger_pass_on, [], []⟩
abbrev s_Ledger_pay : Stmt := metS 14 2
abbrev n_Ledger_pay : List Str := [("self" : Str), ("debtor" : Str), ("lender" : Str), ("amount" : Str), ("self._owed" : Str), ("self._log" : Str)]
theorem sc_Ledger_pay : FnScope n_Ledger_pay [("self" : Str), ("debtor" : Str), ("lender" : Str), ("amount" : Str)] (defScope s_Ledger_pay) := ⟨rfl, rfl, rfl, by decide +kernel, rfl, by decide +kernel, by decide +kernel⟩
def d_Ledger_pay : He.DefD := ⟨("Ledger", some "pay"), "pay", "Ledger.pay", defArgs s_Ledger_pay, defBody s_Ledger_pay, defScope s_Ledger_pay, [], []⟩
abbrev s__law_done : Stmt := topS 22
abbrev n__law_done : List Str := [("ledger" : Str), ("row" : Str), ("problem" : Str), ("ledger._owed" : Str), ("ledger._log" : Str)]
theorem sc__law_done : FnScope n__law_done [("ledger" : Str), ("row" : Str)] (defScope s__law_done) := ⟨rfl, rfl, rfl, by decide +kernel, rfl, by decide +kernel, by decide +kernel⟩
def d__law_done : He.DefD := ⟨("_law_done", none), "_law_done", "_law_done", defArgs s__law_done, defBody s__law_done, defScope s__law_done, [], []⟩
abbrev s__law_draw : Stmt := topS 18
abbrev n__law_draw : List Str := [("pool" : Str), ("many" : Str), ("found" : Str), ("cell" : Str), ("mixed" : Str)]
theorem sc__law_draw : FnScope n__law_draw [("pool" : Str), ("many" : Str)] (defScope s__law_draw) := ⟨rfl, rfl, rfl, by decide +kernel, rfl, by decide +kernel, by decide +kernel⟩
def d__law_draw : He.DefD := ⟨("_law_draw", none), "_law_draw", "_law_draw", defArgs s__law_draw, defBody s__law_draw, defScope s__law_draw, [], []⟩
abbrev s__law_good : Stmt := topS 21
abbrev n__law_good : List Str := [("word" : Str), ("sign" : Str)]
theorem sc__law_good : FnScope n__law_good [("word" : Str)] (defScope s__law_good) := ⟨rfl, rfl, rfl, by decide +kernel, rfl, by decide +kernel, by decide +kernel⟩
def d__law_good : He.DefD := ⟨("_law_good", none), "_law_good", "_law_good", defArgs s__law_good, defBody s__law_good, defScope s__law_good, [], []⟩
abbrev s__law_due : Stmt := topS 23
abbrev n__law_due : List Str := [("model" : Str), ("row" : Str), ("amount" : Str), ("wrong" : Str), ("pair" : Str), ("other" : Str)]
theorem sc__law_due : FnScope n__law_due [("model" : Str), ("row" : Str)] (defScope s__law_due) := ⟨rfl, rfl, rfl, by decide +kernel, rfl, by decide +kernel, by decide +kernel⟩
def d__law_due : He.DefD := ⟨("_law_due", none), "_law_due", "_law_due", defArgs s__law_due, defBody s__law_due, defScope s__law_due, [], []⟩
abbrev s__law_names : Stmt := topS 20
abbrev n__law_names : List Str := [("pool" : Str), ("many" : Str), ("letters" : Str), ("first" : Str), ("k" : Str), ("common" : Str), ("at" : Str), ("found" : Str), ("code" : Str)]
theorem sc__law_names : FnScope n__law_names [("pool" : Str), ("many" : Str)] (defScope s__law_names) := ⟨rfl, rfl, rfl, by decide +kernel, rfl, by decide +kernel, by decide +kernel⟩
def d__law_names : He.DefD := ⟨("_law_names", none), "_law_names", "_law_names", defArgs s__law_names, defBody s__law_names, defScope s__law_names, [], []⟩
abbrev s__law_pick : Stmt := topS 19
abbrev n__law_pick : List Str := [("pool" : Str), ("rows" : Str)]
theorem sc__law_pick : FnScope n__law_pick [("pool" : Str), ("rows" : Str)] (defScope s__law_pick) := ⟨rfl, rfl, rfl, by decide +kernel, rfl, by decide +kernel, by decide +kernel⟩
def d__law_pick : He.DefD := ⟨("_law_pick", none), "_law_pick", "_law_pick", defArgs s__law_pick, defBody s__law_pick, defScope s__law_pick, [], []⟩
abbrev s__law_pool : Stmt := topS 17
abbrev n__law_pool : List Str := [("script" : Str)]
theorem sc__law_pool : FnScope n__law_pool [("script" : Str)] (defScope s__law_pool) := ⟨rfl, rfl, rfl, by decide +kernel, rfl, by decide +kernel, by decide +kernel⟩
def d__law_pool : He.DefD := ⟨("_law_pool", none), "_law_pool", "_law_pool", defArgs s__law_pool, defBody s__law_pool, defScope s__law_pool, [], []⟩
abbrev s_Ledger_debts : Stmt := metS 14 5
abbrev n_Ledger_debts : List Str := [("self" : Str), ("pair" : Str), ("self._owed" : Str), ("self._log" : Str)]
theorem sc_Ledger_debts : FnScope n_Ledger_debts [("self" : Str)] (defScope s_Ledger_debts) := ⟨rfl, rfl, rfl, by decide +kernel, rfl, by decide +kernel, by decide +kernel⟩
def d_Ledger_debts : He.DefD := ⟨("Ledger", some "debts"), "debts", "Ledger.debts", defArgs s_Ledger_debts, defBody s_Ledger_debts, defScope s_Ledger_debts, [], []⟩
abbrev s_Ledger_log : Stmt := metS 14 6
abbrev n_Ledger_log : List Str := [("self" : Str), ("self._owed" : Str), ("self._log" : Str)]
theorem sc_Ledger_log : FnScope n_Ledger_log [("self" : Str)] (defScope s_Ledger_log) := ⟨rfl, rfl, rfl, by decide +kernel, rfl, by decide +kernel, by decide +kernel⟩
def d_Ledger_log : He.DefD := ⟨("Ledger", some "log"), "log", "Ledger.log", defArgs s_Ledger_log, defBody s_Ledger_log, defScope s_Ledger_log, [], []⟩
abbrev s__law_same : Stmt := topS 16
abbrev n__law_same : List Str := [("actual" : Str), ("due" : Str), ("k" : Str)]
theorem sc__law_same : FnScope n__law_same [("actual" : Str), ("due" : Str)] (defScope s__law_same) := ⟨rfl, rfl, rfl, by decide +kernel, rfl, by decide +kernel, by decide +kernel⟩
def d__law_same : He.DefD := ⟨("_law_same", none), "_law_same", "_law_same", defArgs s__law_same, defBody s__law_same, defScope s__law_same, [], []⟩
abbrev s__law_told_right : Stmt := topS 24
abbrev n__law_told_right : List Str := [("ledger" : Str), ("model" : Str), ("log" : Str), ("names" : Str), ("rows" : Str), ("pair" : Str), ("one" : Str), ("other" : Str), ("lent" : Str), ("row" : Str), ("gone" : Str), ("ledger._owed" : Str), ("ledger._log" : Str)]
theorem sc__law_told_right : FnScope n__law_told_right [("ledger" : Str), ("model" : Str), ("log" : Str), ("names" : Str)] (defScope s__law_told_right) := ⟨rfl, rfl, rfl, by decide +kernel, rfl, by decide +kernel, by decide +kernel⟩
def d__law_told_right : He.DefD := ⟨("_law_told_right", none), "_law_told_right", "_law_told_right", defArgs s__law_told_right, defBody s__law_told_right, defScope s__law_told_right, [], []⟩
abbrev s_law : Stmt := topS 25
abbrev n_law : List Str := [("script" : Str), ("pool" : Str), ("names" : Str), ("ledger" : Str), ("model" : Str), ("log" : Str), ("k" : Str), ("word" : Str), ("row" : Str), ("due" : Str), ("ledger._owed" : Str), ("ledger._log" : Str)]
theorem sc_law : FnScope n_law [("script" : Str)] (defScope s_law) := ⟨rfl, rfl, rfl, by decide +kernel, rfl, by decide +kernel, by decide +kernel⟩
def d_law : He.DefD := ⟨("law", none), "law", "law", defArgs s_law, defBody s_law, defScope s_law, [], []⟩
def fn : List He.DefD := [d_Ledger___init__, d_is_name, d_checked_name, d_is_number, d_checked_number, d_Ledger_lend, d_Ledger_owed, d_Ledger_pass_on, d_Ledger_pay, d__law_done, d__law_draw, d__law_good, d__law_due, d__law_names, d__law_pick, d__law_pool, d_Ledger_debts, d_Ledger_log, d__law_same, d__law_told_right, d_law]
def fA : List He.Fa := [.glo "Ledger", .cls "Ledger", .mkr "Ledger", .meth "Ledger" "lend", .meth "Ledger" "owed", .meth "Ledger" "pass_on", .meth "Ledger" "pay", .meth "Ledger" "debts", .meth "Ledger" "log", .noat "Ledger" "_owed", .noat "Ledger" "_log", .glo "is_name", .glo "checked_name", .glo "is_number", .glo "checked_number", .glo "_law_done", .glo "_law_draw", .glo "_law_good", .glo "_law_due", .glo "_law_names", .glo "_law_pick", .glo "_law_pool", .glo "_law_same", .glo "_law_told_right", .glo "law", .free "ValueError", .free "abs", .free "bool", .free "int", .free "isinstance", .free "len", .free "list", .free "range", .free "sorted", .free "str", .free "sum", .free "tuple", .int "GREATEST" (1000000), .str "LETTERS" "abcdefghijklmnopqrstuvwxyz", .int "LONGEST" (12), .glo "NotNow", .exc "GrainError", .glo "GrainError", .exc "InvalidName", .glo "InvalidName", .exc "InvalidNumber", .glo "InvalidNumber"]
abbrev fileS : Str := "/claim/cut.py"
def exL (K : PySem.W.Frag) : List Bool := [decide (PySem.W.findIn K (.ref (He.ga K "InvalidName")) "__getattribute__" = some (some (.builtin "BaseException.__getattribute__"))), decide (PySem.W.findIn K (.ref (He.ga K "InvalidName")) "__getattr__" = some none), decide (PySem.W.subIn K (.ref (He.ga K "InvalidName")) (.type "BaseException") = some true), PySem.W.hasDictIn K (He.ga K "InvalidName"), decide (PySem.W.findIn K (.ref (He.ga K "InvalidName")) "__class__" = some (some (.builtin "object.__class__"))), decide (PySem.W.specialIn K (.builtin "object.__class__") "__get__" = some (some (.builtin "getset_descriptor.__get__"))), decide (PySem.W.takesIn K (.builtin "object.__class__") = some true), decide (PySem.W.mroIn K (He.ga K "InvalidName") (.type "object") = some true), decide (PySem.W.findIn K (.ref (He.ga K "InvalidNumber")) "__getattribute__" = some (some (.builtin "BaseException.__getattribute__"))), decide (PySem.W.findIn K (.ref (He.ga K "InvalidNumber")) "__getattr__" = some none), decide (PySem.W.subIn K (.ref (He.ga K "InvalidNumber")) (.type "BaseException") = some true), PySem.W.hasDictIn K (He.ga K "InvalidNumber"), decide (PySem.W.findIn K (.ref (He.ga K "InvalidNumber")) "__class__" = some (some (.builtin "object.__class__"))), decide (PySem.W.specialIn K (.builtin "object.__class__") "__get__" = some (some (.builtin "getset_descriptor.__get__"))), decide (PySem.W.takesIn K (.builtin "object.__class__") = some true), decide (PySem.W.mroIn K (He.ga K "InvalidNumber") (.type "object") = some true), decide (PySem.W.findIn K (.ref (He.ga K "NotNow")) "__getattribute__" = some (some (.builtin "BaseException.__getattribute__"))), decide (PySem.W.findIn K (.ref (He.ga K "NotNow")) "__getattr__" = some none), decide (PySem.W.subIn K (.ref (He.ga K "NotNow")) (.type "BaseException") = some true), PySem.W.hasDictIn K (He.ga K "NotNow"), decide (PySem.W.findIn K (.ref (He.ga K "NotNow")) "__class__" = some (some (.builtin "object.__class__"))), decide (PySem.W.specialIn K (.builtin "object.__class__") "__get__" = some (some (.builtin "getset_descriptor.__get__"))), decide (PySem.W.takesIn K (.builtin "object.__class__") = some true), decide (PySem.W.mroIn K (He.ga K "NotNow") (.type "object") = some true), decide (PySem.W.exmOne K (.ref (He.ga K "InvalidName")) (.ref (He.ga K "GrainError")) = some true), decide (PySem.W.exmOne K (.ref (He.ga K "InvalidName")) (.ref (He.ga K "NotNow")) = some false), decide (PySem.W.kitOne K (.ref (He.ga K "InvalidName")) (.ref (He.ga K "InvalidName")) = some true), decide (PySem.W.kitOne K (.ref (He.ga K "InvalidName")) (.ref (He.ga K "InvalidNumber")) = some false), decide (PySem.W.kitOne K (.ref (He.ga K "InvalidName")) (.type "ValueError") = some true), decide (PySem.W.exmOne K (.ref (He.ga K "InvalidNumber")) (.ref (He.ga K "GrainError")) = some true), decide (PySem.W.exmOne K (.ref (He.ga K "InvalidNumber")) (.ref (He.ga K "NotNow")) = some false), decide (PySem.W.kitOne K (.ref (He.ga K "InvalidNumber")) (.ref (He.ga K "InvalidName")) = some false), decide (PySem.W.kitOne K (.ref (He.ga K "InvalidNumber")) (.ref (He.ga K "InvalidNumber")) = some true), decide (PySem.W.kitOne K (.ref (He.ga K "InvalidNumber")) (.type "ValueError") = some true), decide (PySem.W.exmOne K (.ref (He.ga K "NotNow")) (.ref (He.ga K "GrainError")) = some true), decide (PySem.W.exmOne K (.ref (He.ga K "NotNow")) (.ref (He.ga K "NotNow")) = some true), decide (PySem.W.kitOne K (.ref (He.ga K "NotNow")) (.ref (He.ga K "InvalidName")) = some false), decide (PySem.W.kitOne K (.ref (He.ga K "NotNow")) (.ref (He.ga K "InvalidNumber")) = some false), decide (PySem.W.kitOne K (.ref (He.ga K "NotNow")) (.type "ValueError") = some true), nnB K (He.ga K "NotNow") "reason" fileS]
def exB (K : PySem.W.Frag) : Bool := (exL K).all fun b => b
/-- what the top has written -/
structure Py (P : Program) (K : PySem.W.Frag) (mg : Str → Option Value) : Prop where
  d_Ledger___init__ : ∃ fd, FunD K "__init__" "Ledger.__init__" (defArgs s_Ledger___init__) (defBody s_Ledger___init__) (defScope s_Ledger___init__) [] [] (He.ma K (He.ga K "Ledger") "__init__") fd
  d_is_name : ∃ fd, FunD K "is_name" "is_name" (defArgs s_is_name) (defBody s_is_name) (defScope s_is_name) [] [] (He.ga K "is_name") fd
  g_is_name : mg "is_name" = some (.ref (He.ga K "is_name"))
  d_checked_name : ∃ fd, FunD K "checked_name" "checked_name" (defArgs s_checked_name) (defBody s_checked_name) (defScope s_checked_name) [] [] (He.ga K "checked_name") fd
  g_checked_name : mg "checked_name" = some (.ref (He.ga K "checked_name"))
  d_is_number : ∃ fd, FunD K "is_number" "is_number" (defArgs s_is_number) (defBody s_is_number) (defScope s_is_number) [.int 0, .int 1000000] [] (He.ga K "is_number") fd
  g_is_number : mg "is_number" = some (.ref (He.ga K "is_number"))
  d_checked_number : ∃ fd, FunD K "checked_number" "checked_number" (defArgs s_checked_number) (defBody s_checked_number) (defScope s_checked_number) [.int 0, .int 1000000] [] (He.ga K "checked_number") fd
  g_checked_number : mg "checked_number" = some (.ref (He.ga K "checked_number"))
  d_Ledger_lend : ∃ fd, FunD K "lend" "Ledger.lend" (defArgs s_Ledger_lend) (defBody s_Ledger_lend) (defScope s_Ledger_lend) [] [] (He.ma K (He.ga K "Ledger") "lend") fd
  d_Ledger_owed : ∃ fd, FunD K "owed" "Ledger.owed" (defArgs s_Ledger_owed) (defBody s_Ledger_owed) (defScope s_Ledger_owed) [] [] (He.ma K (He.ga K "Ledger") "owed") fd
  d_Ledger_pass_on : ∃ fd, FunD K "pass_on" "Ledger.pass_on" (defArgs s_Ledger_pass_on) (defBody s_Ledger_pass_on) (defScope s_Ledger_pass_on) [] [] (He.ma K (He.ga K "Ledger") "pass_on") fd
  d_Ledger_pay : ∃ fd, FunD K "pay" "Ledger.pay" (defArgs s_Ledger_pay) (defBody s_Ledger_pay) (defScope s_Ledger_pay) [] [] (He.ma K (He.ga K "Ledger") "pay") fd
  d__law_done : ∃ fd, FunD K "_law_done" "_law_done" (defArgs s__law_done) (defBody s__law_done) (defScope s__law_done) [] [] (He.ga K "_law_done") fd
  g__law_done : mg "_law_done" = some (.ref (He.ga K "_law_done"))
  d__law_draw : ∃ fd, FunD K "_law_draw" "_law_draw" (defArgs s__law_draw) (defBody s__law_draw) (defScope s__law_draw) [] [] (He.ga K "_law_draw") fd
  g__law_draw : mg "_law_draw" = some (.ref (He.ga K "_law_draw"))
  d__law_good : ∃ fd, FunD K "_law_good" "_law_good" (defArgs s__law_good) (defBody s__law_good) (defScope s__law_good) [] [] (He.ga K "_law_good") fd
  g__law_good : mg "_law_good" = some (.ref (He.ga K "_law_good"))
  d__law_due : ∃ fd, FunD K "_law_due" "_law_due" (defArgs s__law_due) (defBody s__law_due) (defScope s__law_due) [] [] (He.ga K "_law_due") fd
  g__law_due : mg "_law_due" = some (.ref (He.ga K "_law_due"))
  d__law_names : ∃ fd, FunD K "_law_names" "_law_names" (defArgs s__law_names) (defBody s__law_names) (defScope s__law_names) [] [] (He.ga K "_law_names") fd
  g__law_names : mg "_law_names" = some (.ref (He.ga K "_law_names"))
  d__law_pick : ∃ fd, FunD K "_law_pick" "_law_pick" (defArgs s__law_pick) (defBody s__law_pick) (defScope s__law_pick) [] [] (He.ga K "_law_pick") fd
  g__law_pick : mg "_law_pick" = some (.ref (He.ga K "_law_pick"))
  d__law_pool : ∃ fd, FunD K "_law_pool" "_law_pool" (defArgs s__law_pool) (defBody s__law_pool) (defScope s__law_pool) [] [] (He.ga K "_law_pool") fd
  g__law_pool : mg "_law_pool" = some (.ref (He.ga K "_law_pool"))
  d_Ledger_debts : ∃ fd, FunD K "debts" "Ledger.debts" (defArgs s_Ledger_debts) (defBody s_Ledger_debts) (defScope s_Ledger_debts) [] [] (He.ma K (He.ga K "Ledger") "debts") fd
  d_Ledger_log : ∃ fd, FunD K "log" "Ledger.log" (defArgs s_Ledger_log) (defBody s_Ledger_log) (defScope s_Ledger_log) [] [] (He.ma K (He.ga K "Ledger") "log") fd
  d__law_same : ∃ fd, FunD K "_law_same" "_law_same" (defArgs s__law_same) (defBody s__law_same) (defScope s__law_same) [] [] (He.ga K "_law_same") fd
  g__law_same : mg "_law_same" = some (.ref (He.ga K "_law_same"))
  d__law_told_right : ∃ fd, FunD K "_law_told_right" "_law_told_right" (defArgs s__law_told_right) (defBody s__law_told_right) (defScope s__law_told_right) [] [] (He.ga K "_law_told_right") fd
  g__law_told_right : mg "_law_told_right" = some (.ref (He.ga K "_law_told_right"))
  d_law : ∃ fd, FunD K "law" "law" (defArgs s_law) (defBody s_law) (defScope s_law) [] [] (He.ga K "law") fd
  g_law : mg "law" = some (.ref (He.ga K "law"))
  g_Ledger : mg "Ledger" = some (.ref (He.ga K "Ledger"))
  cl_Ledger : Cls K (He.ga K "Ledger")
  mk_Ledger : Mk K (He.ga K "Ledger") (He.ma K (He.ga K "Ledger") "__init__")
  me_Ledger_lend : Meth K (He.ga K "Ledger") "lend" (He.ma K (He.ga K "Ledger") "lend")
  me_Ledger_owed : Meth K (He.ga K "Ledger") "owed" (He.ma K (He.ga K "Ledger") "owed")
  me_Ledger_pass_on : Meth K (He.ga K "Ledger") "pass_on" (He.ma K (He.ga K "Ledger") "pass_on")
  me_Ledger_pay : Meth K (He.ga K "Ledger") "pay" (He.ma K (He.ga K "Ledger") "pay")
  me_Ledger_debts : Meth K (He.ga K "Ledger") "debts" (He.ma K (He.ga K "Ledger") "debts")
  me_Ledger_log : Meth K (He.ga K "Ledger") "log" (He.ma K (He.ga K "Ledger") "log")
  na_Ledger__owed : NoAttr K (He.ga K "Ledger") "_owed"
  na_Ledger__log : NoAttr K (He.ga K "Ledger") "_log"
  z_ValueError : mg ("ValueError" : Str) = none
  z_abs : mg ("abs" : Str) = none
  z_bool : mg ("bool" : Str) = none
  z_int : mg ("int" : Str) = none
  z_isinstance : mg ("isinstance" : Str) = none
  z_len : mg ("len" : Str) = none
  z_list : mg ("list" : Str) = none
  z_range : mg ("range" : Str) = none
  z_sorted : mg ("sorted" : Str) = none
  z_str : mg ("str" : Str) = none
  z_sum : mg ("sum" : Str) = none
  z_tuple : mg ("tuple" : Str) = none
  i_GREATEST : ∃ t, mg ("GREATEST" : Str) = some (.int (1000000) t)
  i_LONGEST : ∃ t, mg ("LONGEST" : Str) = some (.int (12) t)
  x_GrainError : XC K mg "GrainError"
  x_InvalidName : XC K mg "InvalidName"
  x_InvalidNumber : XC K mg "InvalidNumber"
  e_InvalidName : ExcC K (He.ga K "InvalidName")
  e_InvalidNumber : ExcC K (He.ga K "InvalidNumber")
  e_NotNow : ExcC K (He.ga K "NotNow")
  m_InvalidName_GrainError : PySem.W.exmOne K (.ref (He.ga K "InvalidName")) (.ref (He.ga K "GrainError")) = some true
  m_InvalidName_NotNow : PySem.W.exmOne K (.ref (He.ga K "InvalidName")) (.ref (He.ga K "NotNow")) = some false
  k_InvalidName_InvalidName : PySem.W.kitOne K (.ref (He.ga K "InvalidName")) (.ref (He.ga K "InvalidName")) = some true
  k_InvalidName_InvalidNumber : PySem.W.kitOne K (.ref (He.ga K "InvalidName")) (.ref (He.ga K "InvalidNumber")) = some false
  k_InvalidName_ValueError : PySem.W.kitOne K (.ref (He.ga K "InvalidName")) (.type "ValueError") = some true
  m_InvalidNumber_GrainError : PySem.W.exmOne K (.ref (He.ga K "InvalidNumber")) (.ref (He.ga K "GrainError")) = some true
  m_InvalidNumber_NotNow : PySem.W.exmOne K (.ref (He.ga K "InvalidNumber")) (.ref (He.ga K "NotNow")) = some false
  k_InvalidNumber_InvalidName : PySem.W.kitOne K (.ref (He.ga K "InvalidNumber")) (.ref (He.ga K "InvalidName")) = some false
  k_InvalidNumber_InvalidNumber : PySem.W.kitOne K (.ref (He.ga K "InvalidNumber")) (.ref (He.ga K "InvalidNumber")) = some true
  k_InvalidNumber_ValueError : PySem.W.kitOne K (.ref (He.ga K "InvalidNumber")) (.type "ValueError") = some true
  m_NotNow_GrainError : PySem.W.exmOne K (.ref (He.ga K "NotNow")) (.ref (He.ga K "GrainError")) = some true
  m_NotNow_NotNow : PySem.W.exmOne K (.ref (He.ga K "NotNow")) (.ref (He.ga K "NotNow")) = some true
  k_NotNow_InvalidName : PySem.W.kitOne K (.ref (He.ga K "NotNow")) (.ref (He.ga K "InvalidName")) = some false
  k_NotNow_InvalidNumber : PySem.W.kitOne K (.ref (He.ga K "NotNow")) (.ref (He.ga K "InvalidNumber")) = some false
  k_NotNow_ValueError : PySem.W.kitOne K (.ref (He.ga K "NotNow")) (.type "ValueError") = some true
  g_NotNow : mg ("NotNow" : Str) = some (.ref (He.ga K "NotNow"))
  n_NotNow : NN P K mg "NotNow" "reason"
  i_LETTERS : ∃ t, mg ("LETTERS" : Str) = some (.str "abcdefghijklmnopqrstuvwxyz" t)
theorem py_of {P : Program} (hP : (P.main.file == fileS) = true) (hT : (P.main.scope.names.lookup ("super" : Str)).isSome = false) {w : World} {K : PySem.W.Frag} {h : Heap} {mg : Str → Option Value} (X : K.In h) (G : h.Ns mainGlobals mg) (cx : He.SaysX fA fn [] [] exB w h K) : Py P K mg := by
  have c := cx.t.d
  have m : ∀ (i : Nat) (b : Bool), (exL K)[i]? = some b → b = true := fun i b e => List.all_eq_true.mp cx.more b (List.mem_of_getElem? e)
  exact {
  g_Ledger := He.glo_ok X G (c.fact 0 (f := .glo "Ledger") rfl)
  cl_Ledger := He.cls_ok (c.fact 1 (f := .cls "Ledger") rfl)
  mk_Ledger := He.mkr_ok (c.fact 2 (f := .mkr "Ledger") rfl)
  me_Ledger_lend := He.meth_ok (c.fact 3 (f := .meth "Ledger" "lend") rfl)
  me_Ledger_owed := He.meth_ok (c.fact 4 (f := .meth "Ledger" "owed") rfl)
  me_Ledger_pass_on := He.meth_ok (c.fact 5 (f := .meth "Ledger" "pass_on") rfl)
  me_Ledger_pay := He.meth_ok (c.fact 6 (f := .meth "Ledger" "pay") rfl)
  me_Ledger_debts := He.meth_ok (c.fact 7 (f := .meth "Ledger" "debts") rfl)
  me_Ledger_log := He.meth_ok (c.fact 8 (f := .meth "Ledger" "log") rfl)
  na_Ledger__owed := He.noat_ok (c.fact 9 (f := .noat "Ledger" "_owed") rfl)
  na_Ledger__log := He.noat_ok (c.fact 10 (f := .noat "Ledger" "_log") rfl)
  d_Ledger___init__ := c.def_ 0 (d := d_Ledger___init__) rfl
  d_is_name := c.def_ 1 (d := d_is_name) rfl
  g_is_name := He.glo_ok X G (c.fact 11 (f := .glo "is_name") rfl)
  d_checked_name := c.def_ 2 (d := d_checked_name) rfl
  g_checked_name := He.glo_ok X G (c.fact 12 (f := .glo "checked_name") rfl)
  d_is_number := c.def_ 3 (d := d_is_number) rfl
  g_is_number := He.glo_ok X G (c.fact 13 (f := .glo "is_number") rfl)
  d_checked_number := c.def_ 4 (d := d_checked_number) rfl
  g_checked_number := He.glo_ok X G (c.fact 14 (f := .glo "checked_number") rfl)
  d_Ledger_lend := c.def_ 5 (d := d_Ledger_lend) rfl
  d_Ledger_owed := c.def_ 6 (d := d_Ledger_owed) rfl
  d_Ledger_pass_on := c.def_ 7 (d := d_Ledger_pass_on) rfl
  d_Ledger_pay := c.def_ 8 (d := d_Ledger_pay) rfl
  d__law_done := c.def_ 9 (d := d__law_done) rfl
  g__law_done := He.glo_ok X G (c.fact 15 (f := .glo "_law_done") rfl)
  d__law_draw := c.def_ 10 (d := d__law_draw) rfl
  g__law_draw := He.glo_ok X G (c.fact 16 (f := .glo "_law_draw") rfl)
  d__law_good := c.def_ 11 (d := d__law_good) rfl
  g__law_good := He.glo_ok X G (c.fact 17 (f := .glo "_law_good") rfl)
  d__law_due := c.def_ 12 (d := d__law_due) rfl
  g__law_due := He.glo_ok X G (c.fact 18 (f := .glo "_law_due") rfl)
  d__law_names := c.def_ 13 (d := d__law_names) rfl
  g__law_names := He.glo_ok X G (c.fact 19 (f := .glo "_law_names") rfl)
  d__law_pick := c.def_ 14 (d := d__law_pick) rfl
  g__law_pick := He.glo_ok X G (c.fact 20 (f := .glo "_law_pick") rfl)
  d__law_pool := c.def_ 15 (d := d__law_pool) rfl
  g__law_pool := He.glo_ok X G (c.fact 21 (f := .glo "_law_pool") rfl)
  d_Ledger_debts := c.def_ 16 (d := d_Ledger_debts) rfl
  d_Ledger_log := c.def_ 17 (d := d_Ledger_log) rfl
  d__law_same := c.def_ 18 (d := d__law_same) rfl
  g__law_same := He.glo_ok X G (c.fact 22 (f := .glo "_law_same") rfl)
  d__law_told_right := c.def_ 19 (d := d__law_told_right) rfl
  g__law_told_right := He.glo_ok X G (c.fact 23 (f := .glo "_law_told_right") rfl)
  d_law := c.def_ 20 (d := d_law) rfl
  g_law := He.glo_ok X G (c.fact 24 (f := .glo "law") rfl)
  z_ValueError := He.free_ok X G (c.fact 25 (f := .free "ValueError") rfl)
  z_abs := He.free_ok X G (c.fact 26 (f := .free "abs") rfl)
  z_bool := He.free_ok X G (c.fact 27 (f := .free "bool") rfl)
  z_int := He.free_ok X G (c.fact 28 (f := .free "int") rfl)
  z_isinstance := He.free_ok X G (c.fact 29 (f := .free "isinstance") rfl)
  z_len := He.free_ok X G (c.fact 30 (f := .free "len") rfl)
  z_list := He.free_ok X G (c.fact 31 (f := .free "list") rfl)
  z_range := He.free_ok X G (c.fact 32 (f := .free "range") rfl)
  z_sorted := He.free_ok X G (c.fact 33 (f := .free "sorted") rfl)
  z_str := He.free_ok X G (c.fact 34 (f := .free "str") rfl)
  z_sum := He.free_ok X G (c.fact 35 (f := .free "sum") rfl)
  z_tuple := He.free_ok X G (c.fact 36 (f := .free "tuple") rfl)
  i_GREATEST := He.int_ok X G (c.fact 37 (f := .int "GREATEST" (1000000)) rfl)
  i_LETTERS := He.str_ok X G (c.fact 38 (f := .str "LETTERS" "abcdefghijklmnopqrstuvwxyz") rfl)
  i_LONGEST := He.int_ok X G (c.fact 39 (f := .int "LONGEST" (12)) rfl)
  g_NotNow := He.glo_ok X G (c.fact 40 (f := .glo "NotNow") rfl)
  x_GrainError := by
    obtain ⟨x1, x2, x3, x4⟩ := He.exc_ok (c.fact 41 (f := .exc "GrainError") rfl)
    exact ⟨x1, x2, x3, x4, He.glo_ok X G (c.fact 42 (f := .glo "GrainError") rfl)⟩
  x_InvalidName := by
    obtain ⟨x1, x2, x3, x4⟩ := He.exc_ok (c.fact 43 (f := .exc "InvalidName") rfl)
    exact ⟨x1, x2, x3, x4, He.glo_ok X G (c.fact 44 (f := .glo "InvalidName") rfl)⟩
  x_InvalidNumber := by
    obtain ⟨x1, x2, x3, x4⟩ := He.exc_ok (c.fact 45 (f := .exc "InvalidNumber") rfl)
    exact ⟨x1, x2, x3, x4, He.glo_ok X G (c.fact 46 (f := .glo "InvalidNumber") rfl)⟩
  e_InvalidName := ⟨of_decide_eq_true (m 0 _ rfl), of_decide_eq_true (m 1 _ rfl), of_decide_eq_true (m 2 _ rfl), m 3 _ rfl, of_decide_eq_true (m 4 _ rfl), of_decide_eq_true (m 5 _ rfl), of_decide_eq_true (m 6 _ rfl), of_decide_eq_true (m 7 _ rfl)⟩
  e_InvalidNumber := ⟨of_decide_eq_true (m 8 _ rfl), of_decide_eq_true (m 9 _ rfl), of_decide_eq_true (m 10 _ rfl), m 11 _ rfl, of_decide_eq_true (m 12 _ rfl), of_decide_eq_true (m 13 _ rfl), of_decide_eq_true (m 14 _ rfl), of_decide_eq_true (m 15 _ rfl)⟩
  e_NotNow := ⟨of_decide_eq_true (m 16 _ rfl), of_decide_eq_true (m 17 _ rfl), of_decide_eq_true (m 18 _ rfl), m 19 _ rfl, of_decide_eq_true (m 20 _ rfl), of_decide_eq_true (m 21 _ rfl), of_decide_eq_true (m 22 _ rfl), of_decide_eq_true (m 23 _ rfl)⟩
  m_InvalidName_GrainError := of_decide_eq_true (m 24 _ rfl)
  m_InvalidName_NotNow := of_decide_eq_true (m 25 _ rfl)
  k_InvalidName_InvalidName := of_decide_eq_true (m 26 _ rfl)
  k_InvalidName_InvalidNumber := of_decide_eq_true (m 27 _ rfl)
  k_InvalidName_ValueError := of_decide_eq_true (m 28 _ rfl)
  m_InvalidNumber_GrainError := of_decide_eq_true (m 29 _ rfl)
  m_InvalidNumber_NotNow := of_decide_eq_true (m 30 _ rfl)
  k_InvalidNumber_InvalidName := of_decide_eq_true (m 31 _ rfl)
  k_InvalidNumber_InvalidNumber := of_decide_eq_true (m 32 _ rfl)
  k_InvalidNumber_ValueError := of_decide_eq_true (m 33 _ rfl)
  m_NotNow_GrainError := of_decide_eq_true (m 34 _ rfl)
  m_NotNow_NotNow := of_decide_eq_true (m 35 _ rfl)
  k_NotNow_InvalidName := of_decide_eq_true (m 36 _ rfl)
  k_NotNow_InvalidNumber := of_decide_eq_true (m 37 _ rfl)
  k_NotNow_ValueError := of_decide_eq_true (m 38 _ rfl)
  n_NotNow := nnB_ok X G (m 39 _ rfl) (He.glo_ok X G (c.fact 40 (f := .glo "NotNow") rfl)) hP hT ini_reason (by decide)
  }
end GP

namespace GP
open PySem PySem.Spec PyProof.Rows L2 G
section
variable {P : Program} {w : World} {K : PySem.W.Frag} {mg : Str → Option Value} {base : Heap}
theorem c__law_draw (Y : Py P K mg) : Cal P w K mg base 1 "_law_draw" (spO K SDraw) [] := by
  obtain ⟨fd, F⟩ := Y.d__law_draw
  have bb := F.bindsN (ps := ["pool", "many"]) fun _ _ _ _ _ _ us hl => match us, hl with | [_, _], _ => rfl
  refine ⟨_, fd, _, [], fn_OD F sc__law_draw (fun xs ds y xs' h => by obtain ⟨_, _, _, _, rfl, _⟩ := h; rfl) (by decide) (fun cdv A outer s H E hr l xs ds y xs' h => ?_), Y.g__law_draw, F.kp, bb, .nil⟩
  obtain ⟨p, n, r, rfl, rfl, ⟨n0, n1⟩, hr', rfl, rfl⟩ := h
  -- the last part, from any pool
  have tail : ∀ (q : Pool) (s2 s3 : Sl), r = drawEnd q n → BD (cxOf (L2N.CX P w) P w K mg base n__law_draw "_law_draw" (defScope s__law_draw) (He.ga K "_law_draw") cdv A outer s H E) (WB E) ((defBody s__law_draw).drop 2) [.o (some l) (.l (pl q)), .d (.int n), s2, s3, .un] { rt := fun x ρ => x = .int r.1 ∧ ρ[0]? = some (.o (some l) (.l (pl r.2))), nx := fun ρ => PyData.int r.1 = .none ∧ ρ[0]? = some (.o (some l) (.l (pl r.2))) } := by
    intro q s2 s3 e
    subst e
    refine bd_seq (sd_setix (ix := 4) (n := 4) 0 (pd_add (pd_ixO (i := 4) 0 rfl pd_int rfl rfl) pd_int) rfl pd_int rfl rfl rfl) ?_
    refine bd_seq (sd_set 4 (pd_mod (by decide) (pd_int1 Y.z_int (pd_add (pd_add (pd_mul (.inr (by decide)) (pd_ixO (i := 3) 0 rfl pd_int rfl rfl) pd_int) (pd_mul (.inr (by decide)) (pd_ixO (i := 4) 0 rfl pd_int rfl rfl) pd_int)) pd_int)) pd_int) rfl sc__law_draw.nd) ?_
    refine bd_seq (sd_set 4 (pd_mod (by decide) (pd_int1 Y.z_int (pd_add (pd_mul ?m1 (pd_var 4 rfl) (pd_var 4 rfl)) (pd_mul (.inr (by decide)) (pd_ixO (i := 4) 0 rfl pd_int rfl rfl) pd_int))) pd_int) rfl sc__law_draw.nd) ?_
    case m1 => 
      refine .inl ⟨?_, ?_⟩
      · have := Int.emod_nonneg (q.c * 48271 + (q.d + 1) * 69621 + 7919) (show (2147483647 : Int) ≠ 0 by decide)
        omega
      · have := Int.emod_lt_of_pos (q.c * 48271 + (q.d + 1) * 69621 + 7919) (show (0 : Int) < 2147483647 by decide)
        omega
    exact bd_one (sd_ret (pd_mod n0 (pd_int1 Y.z_int (pd_var 4 rfl)) (pd_var 1 rfl)) ⟨rfl, rfl⟩)
  refine bd_env (ρ' := [.o (some l) (.l (pl p)), .d (.int n), .un, .un, .un]) rfl ?_
  refine bd_guard (td_gt (pd_ixO (i := 2) 0 rfl pd_int rfl rfl) pd_int) (fun hk => ?_) (fun hk => ?_)
  · have hk := of_decide_eq_true hk
    have e : drawP p n = (p.b % n, { p with b := p.b / n }) := by unfold drawP; rw [if_pos hk]
    rw [e] at hr'
    subst hr'
    refine bd_seq (sd_set 2 (pd_mod n0 (pd_int1 Y.z_int (pd_ixO (i := 2) 0 rfl pd_int rfl rfl)) (pd_var 1 rfl)) rfl sc__law_draw.nd) ?_
    refine bd_seq (sd_setix (ix := 2) (n := 2) 0 (pd_fdiv ⟨n0, n1⟩ (pd_ixO (i := 2) 0 rfl pd_int rfl rfl) (pd_var 1 rfl)) rfl pd_int rfl rfl rfl) ?_
    exact bd_one (sd_ret (pd_var 2 rfl) ⟨rfl, rfl⟩)
  · have hk := of_decide_eq_false hk
    have e0 : drawP p n = if decide (p.d % 8 = 0) && decide ((p.a : Int) < p.l.length) then
        let cell : Int := (gI p.l (p.a : Int)).natAbs
        if cell ≥ 10 ^ 18 then (cell % n, { p with a := p.a + 1, b := cell / n })
        else drawEnd { p with a := p.a + 1, c := cell } n
      else drawEnd p n := by unfold drawP; rw [if_neg hk]
    rw [e0] at hr'
    refine bd_cut (fun ρ => ∃ (q : Pool) (s2 s3 : Sl), ρ = [.o (some l) (.l (pl q)), .d (.int n), s2, s3, .un] ∧ r = drawEnd q n) (sd_if (k := decide (p.d % 8 = 0) && decide ((p.a : Int) < p.l.length)) (td_w (wd_and (td_eqI (pd_mod (by decide) (pd_int1 Y.z_int (pd_ixO (i := 4) 0 rfl pd_int rfl rfl)) pd_int) pd_int) fun _ => wd_and1 (td_lt (pd_ixO (i := 1) 0 rfl pd_int rfl rfl) (pd_lenD Y.z_len (pd_ixO (i := 0) 0 rfl pd_int rfl rfl))))) (fun hk2 => ?a) (fun hk2 => ?b)) (fun ρ1 h => ?_)
    case b =>
      rw [hk2] at hr'
      exact bd_nil ⟨p, .un, .un, rfl, hr'⟩
    case a =>
      rw [hk2] at hr'
      obtain ⟨h8, ha⟩ := Bool.and_eq_true_iff.mp hk2
      have ha := of_decide_eq_true ha
      have hr' : r = if (((gI p.l (p.a : Int)).natAbs : Nat) : Int) ≥ 10 ^ 18 then (((gI p.l (p.a : Int)).natAbs : Int) % n, { p with a := p.a + 1, b := ((gI p.l (p.a : Int)).natAbs : Int) / n })
        else drawEnd { p with a := p.a + 1, c := ((gI p.l (p.a : Int)).natAbs : Int) } n := hr'
      refine bd_seq (sd_set 3 (pd_abs Y.z_abs (pd_gixD (f := PyData.int) (ns := p.l) (i := (p.a : Int)) ⟨by omega, ha⟩ (pd_ixO (i := 0) 0 rfl pd_int rfl rfl) (pd_ixO (i := 1) 0 rfl pd_int rfl rfl))) rfl sc__law_draw.nd) ?_
      refine bd_seq (sd_setix (ix := 1) (n := 1) 0 (pd_add (pd_ixO (i := 1) 0 rfl pd_int rfl rfl) pd_int) rfl pd_int rfl rfl rfl) ?_
      refine bd_guard (td_ge (pd_var 3 rfl) (pd_pow ⟨by decide, by decide, by decide⟩ pd_int pd_int)) (fun hk3 => ?_) (fun hk3 => ?_)
      · have hk3 := of_decide_eq_true hk3
        have hk3 : ((gI p.l (p.a : Int)).natAbs : Int) ≥ 10 ^ 18 := hk3
        rw [if_pos hk3] at hr'
        subst hr'
        refine bd_seq (sd_setix (ix := 2) (n := 2) 0 (pd_fdiv ⟨n0, n1⟩ (pd_var 3 rfl) (pd_var 1 rfl)) rfl pd_int rfl rfl rfl) ?_
        exact bd_one (sd_ret (pd_mod n0 (pd_int1 Y.z_int (pd_var 3 rfl)) (pd_var 1 rfl)) ⟨rfl, rfl⟩)
      · have hk3 := of_decide_eq_false hk3
        have hk3 : ¬ ((gI p.l (p.a : Int)).natAbs : Int) ≥ 10 ^ 18 := hk3
        rw [if_neg hk3] at hr'
        refine bd_one (sd_setix (ix := 3) (n := 3) 0 (pd_var 3 rfl) rfl pd_int rfl rfl ?_)
        exact ⟨_, .un, _, rfl, hr'⟩
    obtain ⟨q, s2, s3, rfl, e⟩ := h
    exact tail q s2 s3 e

def SPool (ds : List PyData) (r : Res) : Prop := ∃ ns : List Int, ds = [.list (ns.map .int)] ∧ r = .own (.l (pl ⟨ns, 0, 0, 0, 0⟩))
theorem c__law_pool (Y : Py P K mg) : Cal P w K mg base 1 "_law_pool" (spD K SPool) [] := by
  obtain ⟨fd, F⟩ := Y.d__law_pool
  have bb := F.bindsN (ps := ["script"]) fun _ _ _ _ _ _ us hl => match us, hl with | [_], _ => rfl
  refine ⟨_, fd, _, [], fn_DD F sc__law_pool (fun ds r h => by obtain ⟨_, rfl, _⟩ := h; rfl) (by decide) (fun cdv A outer s H E hr ds r h => ?_), Y.g__law_pool, F.kp, bb, .nil⟩
  obtain ⟨ns, rfl, rfl⟩ := h
  exact bd_one (sd_retO (pn_lst (ad_cons (pd_n (pd_listD (f := PyData.int) (ns := ns) Y.z_list (pd_var 0 rfl))) (ad_cons pd_int (ad_cons pd_int (ad_cons pd_int (ad_cons pd_int ad_nil)))))) rfl)

theorem c__law_pick (Y : Py P K mg) : Cal P w K mg base 2 "_law_pick" (spO K SPick) [] := by
  obtain ⟨fd, F⟩ := Y.d__law_pick
  have bb := F.bindsN (ps := ["pool", "rows"]) fun _ _ _ _ _ _ us hl => match us, hl with | [_, _], _ => rfl
  refine ⟨_, fd, _, [], fn_OD F sc__law_pick (fun xs ds y xs' h => by obtain ⟨_, _, _, _, rfl, _⟩ := h; rfl) (by decide) (fun cdv A outer s H E hr l xs ds y xs' h => ?_), Y.g__law_pick, F.kp, bb, .nil⟩
  obtain ⟨p, rows, r, rfl, rfl, ⟨n0, n1⟩, hr', hy, rfl⟩ := h
  have bd := draw_bd p (n := (rows.length : Int)) (by omega)
  rw [← hr'] at bd
  refine bd_one (sd_ret (x := y) (pd_ixL (i := r.1) (xs := rows) ?e srcN (pq_d (pd_var 1 rfl)) (pd_callO 0 (c__law_draw Y) hr .nil rfl (ad_cons (pd_len (xs := rows) Y.z_len (pq_d (pd_var 1 rfl)) srcN) ad_nil) rfl ⟨p, (rows.length : Int), r, rfl, rfl, ⟨by omega, by omega⟩, hr', rfl, rfl⟩)) ⟨rfl, rfl⟩)
  unfold atI ixN
  rw [if_pos bd.1, if_pos bd.2]
  exact hy

theorem c__law_same (Y : Py P K mg) : ∀ d : Nat, Cal P w K mg base (d + 1) "_law_same" (spD K (SSame d)) [] := by
  obtain ⟨fd, F⟩ := Y.d__law_same
  have bb := F.bindsN (ps := ["actual", "due"]) fun _ _ _ _ _ _ us hl => match us, hl with | [_, _], _ => rfl
  suffices h : ∀ d : Nat, FnOk P w K mg base (L2N.CX P w) (d + 1) (He.ga K "_law_same") fd [("actual" : Str), ("due" : Str)] (spD K (SSame d)) by
    exact fun d => ⟨_, fd, _, [], h d, Y.g__law_same, F.kp, bb, .nil⟩
  intro d
  induction d with
  | zero =>
    refine fn_DD F sc__law_same (fun ds r h => by obtain ⟨_, rfl, _⟩ := h; rfl) (by decide) (fun cdv A outer s H E hr ds r h => ?_)
    obtain ⟨x, rfl, nx, rfl⟩ := h
    refine bd_env (ρ' := [.d x, .d x, .un]) rfl ?_
    cases nx with
    | non =>
      refine bd_guard (k := true) (td_isN (x := .none) (pd_var 1 rfl)) (fun _ => ?_) (fun h => nomatch h)
      exact bd_one (sd_ret (pd_isN (x := .none) (pd_var 0 rfl)) rfl)
    | bl b =>
      refine bd_guard (k := false) (td_isN (x := .bool b) (pd_var 1 rfl)) (fun h => nomatch h) (fun _ => ?_)
      refine bd_guard (k := false || false) (td_val (pd_isi2 (x := .bool b) (T := "tuple") (U := "list") rfl (show kitB "bool" "tuple" = some false by decide +kernel) (show kitB "bool" "list" = some false by decide +kernel) Y.z_isinstance (pe_cls Y.z_tuple rfl) (pe_cls Y.z_list rfl) (pd_var 1 rfl))) (fun h => nomatch h) (fun _ => ?_)
      refine bd_guard (k := true) (td_val (pd_isi (x := .bool b) (T := "bool") rfl (show kitB "bool" "bool" = some true by decide +kernel) Y.z_isinstance (pe_cls Y.z_bool rfl) (pd_var 1 rfl))) (fun _ => ?_) (fun h => nomatch h)
      exact bd_one (sd_ret (pd_and_t (pd_isi (x := .bool b) (T := "bool") rfl (show kitB "bool" "bool" = some true by decide +kernel) Y.z_isinstance (pe_cls Y.z_bool rfl) (pd_var 0 rfl)) (pd_one (pd_eq hr.units rfl rfl (pd_var 0 rfl) (pd_var 1 rfl)))) (by show PyData.bool (PyData.eqv (.bool b) (.bool b)) = .bool true; simp [PyData.eqv]))
    | int i =>
      refine bd_guard (k := false) (td_isN (x := .int i) (pd_var 1 rfl)) (fun h => nomatch h) (fun _ => ?_)
      refine bd_guard (k := false || false) (td_val (pd_isi2 (x := .int i) (T := "tuple") (U := "list") rfl (show kitB "int" "tuple" = some false by decide +kernel) (show kitB "int" "list" = some false by decide +kernel) Y.z_isinstance (pe_cls Y.z_tuple rfl) (pe_cls Y.z_list rfl) (pd_var 1 rfl))) (fun h => nomatch h) (fun _ => ?_)
      refine bd_guard (k := false) (td_val (pd_isi (x := .int i) (T := "bool") rfl (show kitB "int" "bool" = some false by decide +kernel) Y.z_isinstance (pe_cls Y.z_bool rfl) (pd_var 1 rfl))) (fun h => nomatch h) (fun _ => ?_)
      refine bd_guard (k := true) (td_val (pd_isi (x := .int i) (T := "int") rfl (show kitB "int" "int" = some true by decide +kernel) Y.z_isinstance (pe_cls Y.z_int rfl) (pd_var 1 rfl))) (fun _ => ?_) (fun h => nomatch h)
      exact bd_one (sd_ret (pd_and_t (pd_isi (x := .int i) (T := "int") rfl (show kitB "int" "int" = some true by decide +kernel) Y.z_isinstance (pe_cls Y.z_int rfl) (pd_var 0 rfl)) (pd_and_t (pd_not (k := false) (pd_isi (x := .int i) (T := "bool") rfl (show kitB "int" "bool" = some false by decide +kernel) Y.z_isinstance (pe_cls Y.z_bool rfl) (pd_var 0 rfl))) (pd_one (pd_eqI (pd_var 0 rfl) (pd_var 1 rfl))))) (by show PyData.bool (decide (i = i)) = .bool true; simp))
    | str t =>
      refine bd_guard (k := false) (td_isN (x := .str t) (pd_var 1 rfl)) (fun h => nomatch h) (fun _ => ?_)
      refine bd_guard (k := false || false) (td_val (pd_isi2 (x := .str t) (T := "tuple") (U := "list") rfl (show kitB "str" "tuple" = some false by decide +kernel) (show kitB "str" "list" = some false by decide +kernel) Y.z_isinstance (pe_cls Y.z_tuple rfl) (pe_cls Y.z_list rfl) (pd_var 1 rfl))) (fun h => nomatch h) (fun _ => ?_)
      refine bd_guard (k := false) (td_val (pd_isi (x := .str t) (T := "bool") rfl (show kitB "str" "bool" = some false by decide +kernel) Y.z_isinstance (pe_cls Y.z_bool rfl) (pd_var 1 rfl))) (fun h => nomatch h) (fun _ => ?_)
      refine bd_guard (k := false) (td_val (pd_isi (x := .str t) (T := "int") rfl (show kitB "str" "int" = some false by decide +kernel) Y.z_isinstance (pe_cls Y.z_int rfl) (pd_var 1 rfl))) (fun h => nomatch h) (fun _ => ?_)
      exact bd_one (sd_ret (pd_and_t (pd_isi (x := .str t) (T := "str") rfl (show kitB "str" "str" = some true by decide +kernel) Y.z_isinstance (pe_cls Y.z_str rfl) (pd_var 0 rfl)) (pd_one (pd_eqS (pd_var 0 rfl) (pd_var 1 rfl)))) (by show PyData.bool (decide (t = t)) = .bool true; simp))
  | succ d ih =>
    refine fn_DD F sc__law_same (fun ds r h => by obtain ⟨_, rfl, _⟩ := h; rfl) (by decide) (fun cdv A outer s H E hr ds r h => ?_)
    obtain ⟨x, rfl, nx, rfl⟩ := h
    have C : Cal P w K mg base (d + 1) "_law_same" (spD K (SSame d)) [] := ⟨_, fd, _, [], ih, Y.g__law_same, F.kp, bb, .nil⟩
    refine bd_env (ρ' := [.d x, .d x, .un]) rfl ?_
    cases nx with
    | non =>
      refine bd_guard (k := true) (td_isN (x := .none) (pd_var 1 rfl)) (fun _ => ?_) (fun h => nomatch h)
      exact bd_one (sd_ret (pd_isN (x := .none) (pd_var 0 rfl)) rfl)
    | bl b =>
      refine bd_guard (k := false) (td_isN (x := .bool b) (pd_var 1 rfl)) (fun h => nomatch h) (fun _ => ?_)
      refine bd_guard (k := false || false) (td_val (pd_isi2 (x := .bool b) (T := "tuple") (U := "list") rfl (show kitB "bool" "tuple" = some false by decide +kernel) (show kitB "bool" "list" = some false by decide +kernel) Y.z_isinstance (pe_cls Y.z_tuple rfl) (pe_cls Y.z_list rfl) (pd_var 1 rfl))) (fun h => nomatch h) (fun _ => ?_)
      refine bd_guard (k := true) (td_val (pd_isi (x := .bool b) (T := "bool") rfl (show kitB "bool" "bool" = some true by decide +kernel) Y.z_isinstance (pe_cls Y.z_bool rfl) (pd_var 1 rfl))) (fun _ => ?_) (fun h => nomatch h)
      exact bd_one (sd_ret (pd_and_t (pd_isi (x := .bool b) (T := "bool") rfl (show kitB "bool" "bool" = some true by decide +kernel) Y.z_isinstance (pe_cls Y.z_bool rfl) (pd_var 0 rfl)) (pd_one (pd_eq hr.units rfl rfl (pd_var 0 rfl) (pd_var 1 rfl)))) (by show PyData.bool (PyData.eqv (.bool b) (.bool b)) = .bool true; simp [PyData.eqv]))
    | int i =>
      refine bd_guard (k := false) (td_isN (x := .int i) (pd_var 1 rfl)) (fun h => nomatch h) (fun _ => ?_)
      refine bd_guard (k := false || false) (td_val (pd_isi2 (x := .int i) (T := "tuple") (U := "list") rfl (show kitB "int" "tuple" = some false by decide +kernel) (show kitB "int" "list" = some false by decide +kernel) Y.z_isinstance (pe_cls Y.z_tuple rfl) (pe_cls Y.z_list rfl) (pd_var 1 rfl))) (fun h => nomatch h) (fun _ => ?_)
      refine bd_guard (k := false) (td_val (pd_isi (x := .int i) (T := "bool") rfl (show kitB "int" "bool" = some false by decide +kernel) Y.z_isinstance (pe_cls Y.z_bool rfl) (pd_var 1 rfl))) (fun h => nomatch h) (fun _ => ?_)
      refine bd_guard (k := true) (td_val (pd_isi (x := .int i) (T := "int") rfl (show kitB "int" "int" = some true by decide +kernel) Y.z_isinstance (pe_cls Y.z_int rfl) (pd_var 1 rfl))) (fun _ => ?_) (fun h => nomatch h)
      exact bd_one (sd_ret (pd_and_t (pd_isi (x := .int i) (T := "int") rfl (show kitB "int" "int" = some true by decide +kernel) Y.z_isinstance (pe_cls Y.z_int rfl) (pd_var 0 rfl)) (pd_and_t (pd_not (k := false) (pd_isi (x := .int i) (T := "bool") rfl (show kitB "int" "bool" = some false by decide +kernel) Y.z_isinstance (pe_cls Y.z_bool rfl) (pd_var 0 rfl))) (pd_one (pd_eqI (pd_var 0 rfl) (pd_var 1 rfl))))) (by show PyData.bool (decide (i = i)) = .bool true; simp))
    | str t =>
      refine bd_guard (k := false) (td_isN (x := .str t) (pd_var 1 rfl)) (fun h => nomatch h) (fun _ => ?_)
      refine bd_guard (k := false || false) (td_val (pd_isi2 (x := .str t) (T := "tuple") (U := "list") rfl (show kitB "str" "tuple" = some false by decide +kernel) (show kitB "str" "list" = some false by decide +kernel) Y.z_isinstance (pe_cls Y.z_tuple rfl) (pe_cls Y.z_list rfl) (pd_var 1 rfl))) (fun h => nomatch h) (fun _ => ?_)
      refine bd_guard (k := false) (td_val (pd_isi (x := .str t) (T := "bool") rfl (show kitB "str" "bool" = some false by decide +kernel) Y.z_isinstance (pe_cls Y.z_bool rfl) (pd_var 1 rfl))) (fun h => nomatch h) (fun _ => ?_)
      refine bd_guard (k := false) (td_val (pd_isi (x := .str t) (T := "int") rfl (show kitB "str" "int" = some false by decide +kernel) Y.z_isinstance (pe_cls Y.z_int rfl) (pd_var 1 rfl))) (fun h => nomatch h) (fun _ => ?_)
      exact bd_one (sd_ret (pd_and_t (pd_isi (x := .str t) (T := "str") rfl (show kitB "str" "str" = some true by decide +kernel) Y.z_isinstance (pe_cls Y.z_str rfl) (pd_var 0 rfl)) (pd_one (pd_eqS (pd_var 0 rfl) (pd_var 1 rfl)))) (by show PyData.bool (decide (t = t)) = .bool true; simp))
    | @lst _ xs hl hx =>
      refine bd_guard (k := false) (td_isN (x := .list xs) (pd_var 1 rfl)) (fun h => nomatch h) (fun _ => ?_)
      refine bd_guard_end (sd_if (k := false || true) (td_val (pd_isi2 (x := .list xs) (T := "tuple") (U := "list") rfl (show kitB "list" "tuple" = some false by decide +kernel) (show kitB "list" "list" = some true by decide +kernel) Y.z_isinstance (pe_cls Y.z_tuple rfl) (pe_cls Y.z_list rfl) (pd_var 1 rfl))) (fun _ => ?_) (fun h => nomatch h))
      refine bd_guard (k := false || false) (td_w (wd_or (td_ne hr.units rfl rfl (pd_isi (x := .list xs) (k := false) (T := "tuple") rfl (show kitB "list" "tuple" = some false by decide +kernel) Y.z_isinstance (pe_cls Y.z_tuple rfl) (pd_var 1 rfl)) (pd_isi (x := .list xs) (k := false) (T := "tuple") rfl (show kitB "list" "tuple" = some false by decide +kernel) Y.z_isinstance (pe_cls Y.z_tuple rfl) (pd_var 0 rfl))) fun _ => wd_or1 (td_ne hr.units rfl rfl (pd_isi (x := .list xs) (k := true) (T := "list") rfl (show kitB "list" "list" = some true by decide +kernel) Y.z_isinstance (pe_cls Y.z_list rfl) (pd_var 1 rfl)) (pd_isi (x := .list xs) (k := true) (T := "list") rfl (show kitB "list" "list" = some true by decide +kernel) Y.z_isinstance (pe_cls Y.z_list rfl) (pd_var 0 rfl))))) (fun h => nomatch h) (fun _ => ?_)
      refine bd_guard (k := !decide ((xs.length : Int) = (xs.length : Int))) (td_neI (pd_len (xs := xs) Y.z_len (pq_d (pd_var 0 rfl)) srcN) (pd_len (xs := xs) Y.z_len (pq_d (pd_var 1 rfl)) srcN)) (fun h => absurd h (by simp)) (fun _ => ?_)
      refine bd_cut (fun r => True) (sd_forF (List.range xs.length) (fun i : Nat => PyData.int (i : Int)) (fun _ : Unit => [.d (.list xs), .d (.list xs), .un]) (fun _ _ => ()) () (fun _ _ => True) (passes_of rfl) rfl (id_range0 (n := xs.length) Y.z_range (pd_len (xs := xs) Y.z_len (pq_d (pd_var 1 rfl)) srcN) (by omega)) (Le.refl _) trivial (fun _ => trivial) (fun i s a ha hs pv => ⟨_, gd_name 2 sc__law_same.nd, ?_⟩) (fun _ _ _ => trivial)) (fun r _ => bd_one (sd_ret pd_bl rfl))
      have hlt : a < xs.length := by
        have := List.mem_of_getElem? ha
        simpa using this
      refine bd_one (sd_if (k := !true) (td_not (td_val (pd_call C hr .nil (ad_cons (pd_ixL (i := (a : Int)) (xs := xs) (x := xs[a]) (atI_nat (List.getElem?_eq_getElem hlt)) srcN (pq_d (pd_var 0 rfl)) (pd_var 2 rfl)) (ad_cons (pd_ixL (i := (a : Int)) (xs := xs) (x := xs[a]) (atI_nat (List.getElem?_eq_getElem hlt)) srcN (pq_d (pd_var 1 rfl)) (pd_var 2 rfl)) ad_nil)) ⟨xs[a], rfl, hx _ (List.getElem_mem hlt), rfl⟩ (Nat.le_refl _)))) (fun h => nomatch h) (fun _ => bd_nil ⟨by repeat (first | exact Le.nil | apply Le.eq | apply Le.un), trivial⟩))
    | @tup _ xs hl hx =>
      refine bd_guard (k := false) (td_isN (x := .tuple xs) (pd_var 1 rfl)) (fun h => nomatch h) (fun _ => ?_)
      refine bd_guard_end (sd_if (k := true || false) (td_val (pd_isi2 (x := .tuple xs) (T := "tuple") (U := "list") rfl (show kitB "tuple" "tuple" = some true by decide +kernel) (show kitB "tuple" "list" = some false by decide +kernel) Y.z_isinstance (pe_cls Y.z_tuple rfl) (pe_cls Y.z_list rfl) (pd_var 1 rfl))) (fun _ => ?_) (fun h => nomatch h))
      refine bd_guard (k := false || false) (td_w (wd_or (td_ne hr.units rfl rfl (pd_isi (x := .tuple xs) (k := true) (T := "tuple") rfl (show kitB "tuple" "tuple" = some true by decide +kernel) Y.z_isinstance (pe_cls Y.z_tuple rfl) (pd_var 1 rfl)) (pd_isi (x := .tuple xs) (k := true) (T := "tuple") rfl (show kitB "tuple" "tuple" = some true by decide +kernel) Y.z_isinstance (pe_cls Y.z_tuple rfl) (pd_var 0 rfl))) fun _ => wd_or1 (td_ne hr.units rfl rfl (pd_isi (x := .tuple xs) (k := false) (T := "list") rfl (show kitB "tuple" "list" = some false by decide +kernel) Y.z_isinstance (pe_cls Y.z_list rfl) (pd_var 1 rfl)) (pd_isi (x := .tuple xs) (k := false) (T := "list") rfl (show kitB "tuple" "list" = some false by decide +kernel) Y.z_isinstance (pe_cls Y.z_list rfl) (pd_var 0 rfl))))) (fun h => nomatch h) (fun _ => ?_)
      refine bd_guard (k := !decide ((xs.length : Int) = (xs.length : Int))) (td_neI (pd_lenT (xs := xs) Y.z_len (pd_var 0 rfl)) (pd_lenT (xs := xs) Y.z_len (pd_var 1 rfl))) (fun h => absurd h (by simp)) (fun _ => ?_)
      refine bd_cut (fun r => True) (sd_forF (List.range xs.length) (fun i : Nat => PyData.int (i : Int)) (fun _ : Unit => [.d (.tuple xs), .d (.tuple xs), .un]) (fun _ _ => ()) () (fun _ _ => True) (passes_of rfl) rfl (id_range0 (n := xs.length) Y.z_range (pd_lenT (xs := xs) Y.z_len (pd_var 1 rfl)) (by omega)) (Le.refl _) trivial (fun _ => trivial) (fun i s a ha hs pv => ⟨_, gd_name 2 sc__law_same.nd, ?_⟩) (fun _ _ _ => trivial)) (fun r _ => bd_one (sd_ret pd_bl rfl))
      have hlt : a < xs.length := by
        have := List.mem_of_getElem? ha
        simpa using this
      refine bd_one (sd_if (k := !true) (td_not (td_val (pd_call C hr .nil (ad_cons (pd_ixT (i := (a : Int)) (xs := xs) (x := xs[a]) (atI_nat (List.getElem?_eq_getElem hlt)) (pd_var 0 rfl) (pd_var 2 rfl)) (ad_cons (pd_ixT (i := (a : Int)) (xs := xs) (x := xs[a]) (atI_nat (List.getElem?_eq_getElem hlt)) (pd_var 1 rfl) (pd_var 2 rfl)) ad_nil)) ⟨xs[a], rfl, hx _ (List.getElem_mem hlt), rfl⟩ (Nat.le_refl _)))) (fun h => nomatch h) (fun _ => bd_nil ⟨by repeat (first | exact Le.nil | apply Le.eq | apply Le.un), trivial⟩))
end
end GP

namespace GP
open PySem PySem.Spec PyProof.Rows L2 G
section
variable {P : Program} {w : World} {K : PySem.W.Frag} {mg : Str → Option Value} {base : Heap}

def S_is_number (ds : List PyData) (r : Res) : Prop := ∃ (d : PyData) (l m : Int), ds = [d, .int l, .int m] ∧ isDct d = false ∧ r = .ret (.bool (isNum d l m))
theorem f_is_number (Y : Py P K mg) {fd : FuncData} (F : FunD K "is_number" "is_number" (defArgs s_is_number) (defBody s_is_number) (defScope s_is_number) [.int 0, .int 1000000] [] (He.ga K "is_number") fd) : FnOk P w K mg base (L2N.CX P w) 1 (He.ga K "is_number") fd [("value" : Str), ("least" : Str), ("most" : Str)] (spD K S_is_number) := by
  refine fn_DD F sc_is_number (fun ds r h => by obtain ⟨_, _, _, rfl, _⟩ := h; rfl) (by decide) (fun cdv A outer s H E hr ds r h => ?_)
  obtain ⟨d, l, m, rfl, nd, rfl⟩ := h
  refine bd_env (ρ' := [.d d, .d (PyData.int l), .d (PyData.int m)]) rfl ?_
  cases d with
  | dict _ => cases nd
  | bool b => exact bd_guard (k := true) (td_w (wd_or_t (td_val (pd_isi (x := .bool b) (T := "bool") (k := true) rfl (show kitB "bool" "bool" = some true by decide +kernel) Y.z_isinstance (pe_cls Y.z_bool rfl) (pd_var 0 rfl))))) (fun _ => bd_one (sd_ret pd_bl rfl)) (fun h => nomatch h)
  | none => exact bd_guard (k := false || !false) (td_w (wd_or (td_val (pd_isi (x := .none) (T := "bool") (k := false) rfl (show kitB "NoneType" "bool" = some false by decide +kernel) Y.z_isinstance (pe_cls Y.z_bool rfl) (pd_var 0 rfl))) (fun _ => wd_or1 (td_not (td_val (pd_isi (x := .none) (T := "int") (k := false) rfl (show kitB "NoneType" "int" = some false by decide +kernel) Y.z_isinstance (pe_cls Y.z_int rfl) (pd_var 0 rfl))))))) (fun _ => bd_one (sd_ret pd_bl rfl)) (fun h => nomatch h)
  | str t => exact bd_guard (k := false || !false) (td_w (wd_or (td_val (pd_isi (x := .str t) (T := "bool") (k := false) rfl (show kitB "str" "bool" = some false by decide +kernel) Y.z_isinstance (pe_cls Y.z_bool rfl) (pd_var 0 rfl))) (fun _ => wd_or1 (td_not (td_val (pd_isi (x := .str t) (T := "int") (k := false) rfl (show kitB "str" "int" = some false by decide +kernel) Y.z_isinstance (pe_cls Y.z_int rfl) (pd_var 0 rfl))))))) (fun _ => bd_one (sd_ret pd_bl rfl)) (fun h => nomatch h)
  | list t => exact bd_guard (k := false || !false) (td_w (wd_or (td_val (pd_isi (x := .list t) (T := "bool") (k := false) rfl (show kitB "list" "bool" = some false by decide +kernel) Y.z_isinstance (pe_cls Y.z_bool rfl) (pd_var 0 rfl))) (fun _ => wd_or1 (td_not (td_val (pd_isi (x := .list t) (T := "int") (k := false) rfl (show kitB "list" "int" = some false by decide +kernel) Y.z_isinstance (pe_cls Y.z_int rfl) (pd_var 0 rfl))))))) (fun _ => bd_one (sd_ret pd_bl rfl)) (fun h => nomatch h)
  | tuple t => exact bd_guard (k := false || !false) (td_w (wd_or (td_val (pd_isi (x := .tuple t) (T := "bool") (k := false) rfl (show kitB "tuple" "bool" = some false by decide +kernel) Y.z_isinstance (pe_cls Y.z_bool rfl) (pd_var 0 rfl))) (fun _ => wd_or1 (td_not (td_val (pd_isi (x := .tuple t) (T := "int") (k := false) rfl (show kitB "tuple" "int" = some false by decide +kernel) Y.z_isinstance (pe_cls Y.z_int rfl) (pd_var 0 rfl))))))) (fun _ => bd_one (sd_ret pd_bl rfl)) (fun h => nomatch h)
  | int i =>
    refine bd_guard (k := false || !true) (td_w (wd_or (td_val (pd_isi (x := .int i) (T := "bool") (k := false) rfl (show kitB "int" "bool" = some false by decide +kernel) Y.z_isinstance (pe_cls Y.z_bool rfl) (pd_var 0 rfl))) (fun _ => wd_or1 (td_not (td_val (pd_isi (x := .int i) (T := "int") (k := true) rfl (show kitB "int" "int" = some true by decide +kernel) Y.z_isinstance (pe_cls Y.z_int rfl) (pd_var 0 rfl))))))) (fun h => nomatch h) (fun _ => ?_)
    exact bd_one (sd_ret (x := .bool (decide (l ≤ i) && decide (i ≤ m))) (pd_chain (f := fun i j => decide (i ≤ j)) (g := fun i j => decide (i ≤ j)) (i := l) (j := i) (l := m) rfl rfl (pd_var 1 rfl) (pd_var 0 rfl) (fun _ => (pd_var 2 rfl))) rfl)
theorem c_is_number_3 (Y : Py P K mg) : Cal P w K mg base 1 "is_number" (spD K S_is_number) [] := by
  obtain ⟨fd, F⟩ := Y.d_is_number
  obtain ⟨ds, v, b⟩ := F.binds1 (ps := [("value" : Str), ("least" : Str), ("most" : Str)]) 3 2 (by simp) rfl fun _ _ _ _ _ _ _ us its h1 h2 => match us, its, h1, h2 with | [_, _, _], [_, _], _, _ => ⟨_, rfl, rfl⟩
  exact ⟨_, fd, _, ds, f_is_number Y F, Y.g_is_number, F.kp, b, v⟩
theorem c_is_number_2 (Y : Py P K mg) : Cal P w K mg base 1 "is_number" (spD K S_is_number) [.int 1000000] := by
  obtain ⟨fd, F⟩ := Y.d_is_number
  obtain ⟨ds, v, b⟩ := F.binds1 (ps := [("value" : Str), ("least" : Str), ("most" : Str)]) 2 1 (by simp) rfl fun _ _ _ _ _ _ _ us its h1 h2 => match us, its, h1, h2 with | [_, _], [_, _], _, _ => ⟨_, rfl, rfl⟩
  exact ⟨_, fd, _, ds, f_is_number Y F, Y.g_is_number, F.kp, b, v⟩
theorem c_is_number_1 (Y : Py P K mg) : Cal P w K mg base 1 "is_number" (spD K S_is_number) [.int 0, .int 1000000] := by
  obtain ⟨fd, F⟩ := Y.d_is_number
  obtain ⟨ds, v, b⟩ := F.binds1 (ps := [("value" : Str), ("least" : Str), ("most" : Str)]) 1 0 (by simp) rfl fun _ _ _ _ _ _ _ us its h1 h2 => match us, its, h1, h2 with | [_], [_, _], _, _ => ⟨_, rfl, rfl⟩
  exact ⟨_, fd, _, ds, f_is_number Y F, Y.g_is_number, F.kp, b, v⟩

def chkRes (K : PySem.W.Frag) (d : PyData) (l m : Int) : Res := if isNum d l m = true then .ret d else .exc (.ref (He.ga K "InvalidNumber")) []
def S_checked_number (K : PySem.W.Frag) (ds : List PyData) (r : Res) : Prop := ∃ (d : PyData) (l m : Int), ds = [d, .int l, .int m] ∧ (isDct d = false ∧ Sml l ∧ Sml m) ∧ r = chkRes K d l m
theorem f_checked_number (Y : Py P K mg) {fd : FuncData} (F : FunD K "checked_number" "checked_number" (defArgs s_checked_number) (defBody s_checked_number) (defScope s_checked_number) [.int 0, .int 1000000] [] (He.ga K "checked_number") fd) : FnOk P w K mg base (L2N.CX P w) 2 (He.ga K "checked_number") fd [("value" : Str), ("least" : Str), ("most" : Str)] (spD K (S_checked_number K)) := by
  refine fn_DD F sc_checked_number (fun ds r h => by obtain ⟨_, _, _, rfl, _⟩ := h; rfl) (by decide) (fun cdv A outer s H E hr ds r h => ?_)
  obtain ⟨d, l, m, rfl, ⟨nd, sl, sm⟩, rfl⟩ := h
  refine bd_env (ρ' := [.d d, .d (PyData.int l), .d (PyData.int m)]) rfl ?_
  unfold chkRes
  refine bd_guard (k := !isNum d l m) (td_not (td_val (pd_call (c_is_number_3 Y) hr .nil (ad_cons (pd_var 0 rfl) (ad_cons (pd_var 1 rfl) (ad_cons (pd_var 2 rfl) ad_nil))) ⟨d, l, m, rfl, nd, rfl⟩))) (fun hk => ?_) (fun hk => ?_)
  · rw [if_neg (by simpa using hk)]
    refine bd_one (sd_raise1 rfl (L2N.takes_of rfl rfl rfl rfl) Y.x_InvalidNumber (pd_addS ?a1 (pd_addS ?a2 (pd_addS ?a3 pd_str (pd_strI sl.2 Y.z_str (pd_var 1 rfl))) pd_str) (pd_strI sm.2 Y.z_str (pd_var 2 rfl))) ⟨rfl, rfl⟩)
    all_goals (have h1 := sl.1; have h2 := sm.1; have hz : (100000 : Nat) ≤ sizeLine := by decide)
    case a3 =>
      have h3 : ("no number from " : Str).length = 15 := by decide
      omega
    case a2 =>
      rw [strlen_add]
      have h3 : ("no number from " : Str).length = 15 := by decide
      have h4 : (" to " : Str).length = 4 := by decide
      omega
    case a1 =>
      rw [strlen_add, strlen_add]
      have h3 : ("no number from " : Str).length = 15 := by decide
      have h4 : (" to " : Str).length = 4 := by decide
      omega
  · rw [if_pos (by simpa using hk)]
    exact bd_one (sd_ret (pd_var 0 rfl) rfl)
theorem chk_ok {x l m : Int} (h : l ≤ x ∧ x ≤ m) : Res.ret (.int x) = chkRes K (.int x) l m := by
  unfold chkRes
  rw [if_pos]
  simp [isNum, h.1, h.2]
theorem chk_bad {d : PyData} {l m : Int} (h : isNum d l m = false) : Res.exc (.ref (He.ga K "InvalidNumber")) [] = chkRes K d l m := by
  unfold chkRes
  rw [if_neg]
  rw [h]; exact Bool.false_ne_true
theorem chk_yes {d : PyData} {l m : Int} (h : isNum d l m = true) : Res.ret d = chkRes K d l m := by
  unfold chkRes
  rw [if_pos h]
theorem c_checked_number_3 (Y : Py P K mg) : Cal P w K mg base 2 "checked_number" (spD K (S_checked_number K)) [] := by
  obtain ⟨fd, F⟩ := Y.d_checked_number
  obtain ⟨ds, v, b⟩ := F.binds1 (ps := [("value" : Str), ("least" : Str), ("most" : Str)]) 3 2 (by simp) rfl fun _ _ _ _ _ _ _ us its h1 h2 => match us, its, h1, h2 with | [_, _, _], [_, _], _, _ => ⟨_, rfl, rfl⟩
  exact ⟨_, fd, _, ds, f_checked_number Y F, Y.g_checked_number, F.kp, b, v⟩
theorem c_checked_number_2 (Y : Py P K mg) : Cal P w K mg base 2 "checked_number" (spD K (S_checked_number K)) [.int 1000000] := by
  obtain ⟨fd, F⟩ := Y.d_checked_number
  obtain ⟨ds, v, b⟩ := F.binds1 (ps := [("value" : Str), ("least" : Str), ("most" : Str)]) 2 1 (by simp) rfl fun _ _ _ _ _ _ _ us its h1 h2 => match us, its, h1, h2 with | [_, _], [_, _], _, _ => ⟨_, rfl, rfl⟩
  exact ⟨_, fd, _, ds, f_checked_number Y F, Y.g_checked_number, F.kp, b, v⟩
theorem c_checked_number_1 (Y : Py P K mg) : Cal P w K mg base 2 "checked_number" (spD K (S_checked_number K)) [.int 0, .int 1000000] := by
  obtain ⟨fd, F⟩ := Y.d_checked_number
  obtain ⟨ds, v, b⟩ := F.binds1 (ps := [("value" : Str), ("least" : Str), ("most" : Str)]) 1 0 (by simp) rfl fun _ _ _ _ _ _ _ us its h1 h2 => match us, its, h1, h2 with | [_], [_, _], _, _ => ⟨_, rfl, rfl⟩
  exact ⟨_, fd, _, ds, f_checked_number Y F, Y.g_checked_number, F.kp, b, v⟩
end
end GP

/-! P63: deeds of a ledger, in plain words. -/
namespace GP
open PySem PySem.Spec PyProof.Rows L2 G
abbrev kA (a : As) : Key := kS a.1
theorem kA_inj (a b : As) (h : kA a = kA b) : a = b := Subtype.ext (Sum.inr.inj h)
abbrev Tb := List ((As × As) × Int)
/-- a deed -/
inductive Dd where
  | lend (l d : As) (v : Option Int)
  | pay (d l : As) (v : Option Int)
  | pas (d l o : As) (v : Option Int)
def dDd : Dd → PyData
  | .lend l d v => .tuple [.str "lend", dAs l, dAs d, dV v]
  | .pay d l v => .tuple [.str "pay", dAs d, dAs l, dV v]
  | .pas d l o v => .tuple [.str "pass", dAs d, dAs l, dAs o, dV v]
/-- a deed that was done -/
inductive Lg where
  | lend (l d : As) (i : Int)
  | pay (d l : As) (i : Int)
  | pas (d l o : As) (i : Int)
def dLg : Lg → PyData
  | .lend l d v => .tuple [.str "lend", dAs l, dAs d, .int v]
  | .pay d l v => .tuple [.str "pay", dAs d, dAs l, .int v]
  | .pas d l o v => .tuple [.str "pass", dAs d, dAs l, dAs o, .int v]
def okV (v : Option Int) : Bool := isNum (dV v) 1 1000000
theorem okV_some {v : Option Int} (h : okV v = true) : ∃ i, v = some i ∧ 1 ≤ i ∧ i ≤ 1000000 := by
  cases v with
  | none => cases h
  | some i =>
    refine ⟨i, rfl, ?_⟩
    have h2 : (decide ((1 : Int) ≤ i) && decide (i ≤ 1000000)) = true := h
    simpa using h2
def owd (m : Tb) (k : As × As) : Int := (gv m k).getD 0
inductive Oc where | done | name | number | notnow
deriving DecidableEq
abbrev St := Tb × List Lg
def stL (s : St) (l d : As) (v : Option Int) : Oc × St :=
  if nmOk l.1 = true then if nmOk d.1 = true then if l = d then (.number, s) else if okV v = true then (.done, G.pv s.1 (d, l) (owd s.1 (d, l) + v.getD 0), s.2 ++ [.lend l d (v.getD 0)]) else (.number, s) else (.name, s) else (.name, s)
def stP (s : St) (d l : As) (v : Option Int) : Oc × St :=
  if okV v = true then if owd s.1 (d, l) < v.getD 0 then (.notnow, s) else (.done, G.pv s.1 (d, l) (owd s.1 (d, l) - v.getD 0), s.2 ++ [.pay d l (v.getD 0)]) else (.number, s)
def tbQ (m : Tb) (d l o : As) (i : Int) : Tb := if o = d then G.pv m (d, l) (owd m (d, l) - i) else G.pv (G.pv m (d, l) (owd m (d, l) - i)) (d, o) (owd (pv m (d, l) (owd m (d, l) - i)) (d, o) + i)
def stQ (s : St) (d l o : As) (v : Option Int) : Oc × St :=
  if nmOk o.1 = true then if okV v = true then if owd s.1 (d, l) < v.getD 0 then (.notnow, s) else (.done, tbQ s.1 d l o (v.getD 0), s.2 ++ [.pas d l o (v.getD 0)]) else (.number, s) else (.name, s)
def step (s : St) : Dd → Oc × St
  | .lend l d v => stL s l d v
  | .pay d l v => stP s d l v
  | .pas d l o v => stQ s d l o v
/-- the names are short -/
def Dd.short : Dd → Prop
  | .lend l d _ => l.1.length ≤ 1000 ∧ d.1.length ≤ 1000
  | .pay d l _ => d.1.length ≤ 1000 ∧ l.1.length ≤ 1000
  | .pas d l o _ => d.1.length ≤ 1000 ∧ l.1.length ≤ 1000 ∧ o.1.length ≤ 1000
theorem gv_of_owd {m : Tb} {k : As × As} {i : Int} (h : ¬ owd m k < i) (hi : 1 ≤ i) : gv m k = some (owd m k) := by
  unfold owd at h ⊢
  cases q : gv m k with
  | none => rw [q] at h; simp at h; omega
  | some z => rfl
theorem pv_le (m : Tb) (k : As × As) (i : Int) : (pv m k i).length ≤ m.length + 1 := pv_len_le m k i
theorem tbQ_le (m : Tb) (d l o : As) (i : Int) : (tbQ m d l o i).length ≤ m.length + 2 := by
  unfold tbQ
  split
  · have := pv_le m (d, l) (owd m (d, l) - i); omega
  · have h1 := pv_le m (d, l) (owd m (d, l) - i)
    have h2 := pv_le (pv m (d, l) (owd m (d, l) - i)) (d, o) (owd (pv m (d, l) (owd m (d, l) - i)) (d, o) + i)
    omega
theorem step_le (s : St) (d : Dd) : (step s d).2.1.length ≤ s.1.length + 2 ∧ (step s d).2.2.length ≤ s.2.length + 1 := by
  cases d with
  | lend l d v =>
    show (stL s l d v).2.1.length ≤ _ ∧ (stL s l d v).2.2.length ≤ _
    unfold stL
    have := pv_le s.1 (d, l) (owd s.1 (d, l) + v.getD 0)
    split
    · split
      · split
        · exact ⟨Nat.le_add_right _ _, Nat.le_add_right _ _⟩
        · split
          · exact ⟨by show (G.pv _ _ _).length ≤ _; omega, by show (s.2 ++ _).length ≤ _; simp⟩
          · exact ⟨Nat.le_add_right _ _, Nat.le_add_right _ _⟩
      · exact ⟨Nat.le_add_right _ _, Nat.le_add_right _ _⟩
    · exact ⟨Nat.le_add_right _ _, Nat.le_add_right _ _⟩
  | pay d l v =>
    show (stP s d l v).2.1.length ≤ _ ∧ (stP s d l v).2.2.length ≤ _
    unfold stP
    have := pv_le s.1 (d, l) (owd s.1 (d, l) - v.getD 0)
    split
    · split
      · exact ⟨Nat.le_add_right _ _, Nat.le_add_right _ _⟩
      · exact ⟨by show (G.pv _ _ _).length ≤ _; omega, by show (s.2 ++ _).length ≤ _; simp⟩
    · exact ⟨Nat.le_add_right _ _, Nat.le_add_right _ _⟩
  | pas d l o v =>
    show (stQ s d l o v).2.1.length ≤ _ ∧ (stQ s d l o v).2.2.length ≤ _
    unfold stQ
    have := tbQ_le s.1 d l o (v.getD 0)
    split
    · split
      · split
        · exact ⟨Nat.le_add_right _ _, Nat.le_add_right _ _⟩
        · exact ⟨by show (tbQ _ _ _ _ _).length ≤ _; omega, by show (s.2 ++ _).length ≤ _; simp⟩
      · exact ⟨Nat.le_add_right _ _, Nat.le_add_right _ _⟩
    · exact ⟨Nat.le_add_right _ _, Nat.le_add_right _ _⟩
theorem none_out63 {cs : List Nat} : (((cs.filter fun a : Nat => !decide (a ∈ abc.cps.toList)).length : Int) = 0) ↔ ∀ c ∈ cs, c ∈ abc.cps.toList := by
  constructor
  · intro h c hc
    have h0 : (cs.filter fun a : Nat => !decide (a ∈ abc.cps.toList)) = [] := List.length_eq_zero_iff.mp (by omega)
    have := List.filter_eq_nil_iff.mp h0 c hc
    simpa using this
  · intro h
    rw [List.filter_eq_nil_iff.mpr (fun c hc => by have := h c hc; simp [this])]
    rfl
theorem good_is63 {s : Str} (h : 1 ≤ s.length ∧ s.length ≤ 12) : decide (((((s.cps.toList).filter fun a : Nat => !decide (a ∈ abc.cps.toList)).map fun a : Nat => a).length : Int) = 0) = nmOk s := by
  rw [Bool.eq_iff_iff, nmOk_iff, signsOk_iff, List.map_id', decide_eq_true_eq, none_out63]
  exact ⟨fun h3 => ⟨fun c hc => abc_mem.mp (h3 c hc), h⟩, fun h3 c hc => abc_mem.mpr (h3.1 c hc)⟩
end GP

namespace GP
open PySem PySem.Spec PyProof.Rows L2 G
section
variable {P : Program} {w : World} {K : PySem.W.Frag} {mg : Str → Option Value} {base : Heap}

def S_is_name (ds : List PyData) (r : Res) : Prop := ∃ (word_ : Str), ds = [(PyData.str word_)] ∧ (word_.length ≤ 1000) ∧ r = .ret (PyData.bool (nmOk word_))
theorem f_is_name (Y : Py P K mg) {fd : FuncData} (F : FunD K "is_name" "is_name" (defArgs s_is_name) (defBody s_is_name) (defScope s_is_name) [] [] (He.ga K "is_name") fd) : FnOk P w K mg base (L2N.CX P w) 1 (He.ga K "is_name") fd [("word" : Str)] (spD K S_is_name) := by
  refine fn_DD F sc_is_name (fun ds r h => by obtain ⟨_, rfl, _⟩ := h; rfl) (by decide) (fun cdv A outer s H E hr ds r h => ?_)
  obtain ⟨word_, rfl, pre, rfl⟩ := h
  refine bd_env (ρ' := [.d (PyData.str word_), .un]) rfl ?_
  -- hk1: if not isinstance(word, str) or not 1 <= len(word) <= LONGEST
  refine bd_guard (k := ((!true) || (!((decide (1 ≤ (word_.length : Int))) && (decide ((word_.length : Int) ≤ 12)))))) (td_w (wd_or (td_not (td_val (pd_isi (x := (PyData.str word_)) (T := "str") (k := true) rfl (show kitB "str" "str" = some true by decide +kernel) Y.z_isinstance (pe_cls Y.z_str rfl) (pd_var 0 rfl)))) (fun hw => (wd_or1 (td_not (td_chain (f := (fun i j => decide (i ≤ j))) (g := (fun i j => decide (i ≤ j))) (i := 1) (j := (word_.length : Int)) (l := 12) rfl rfl pd_int (pd_lenS (/- side 0 -/ by exact line_of (by omega)) Y.z_len (pd_var 0 rfl)) (fun _ => (pd_gint (Y.i_LONGEST).choose_spec)))))))) (fun hk1 => ?_) (fun hk1 => ?_)
  · skip
    have hk1f := hk1; try simp only [decide_eq_true_eq, decide_eq_false_iff_not, Bool.and_eq_true, Bool.or_eq_true, Bool.not_eq_true', Bool.not_eq_false', Bool.and_eq_false_iff, Bool.or_eq_false_iff, Bool.not_true, Bool.not_false, List.isEmpty_iff] at hk1f
    have hN : nmOk word_ = false := by rw [← Bool.not_eq_true, nmOk_iff]; rintro ⟨_, h1, h2⟩; have h9 := hk1f; simp at h9; omega
    refine bd_one (sd_ret (x := (PyData.bool false)) pd_bl ?_)
    show (PyData.bool false) = (PyData.bool (nmOk word_))
    refine congrArg PyData.bool (?_ : (false : Bool) = (nmOk word_))
    exact hN.symm
  · skip
    have hk1f := hk1; try simp only [decide_eq_true_eq, decide_eq_false_iff_not, Bool.and_eq_true, Bool.or_eq_true, Bool.not_eq_true', Bool.not_eq_false', Bool.and_eq_false_iff, Bool.or_eq_false_iff, Bool.not_true, Bool.not_false, List.isEmpty_iff] at hk1f
    have hL : 1 ≤ word_.length ∧ word_.length ≤ 12 := by have h9 := hk1f; simp at h9; omega
    -- for for sign in word:
    refine bd_cut (fun r : En => (∀ c ∈ word_.cps.toList.take (word_.cps.toList).length, 97 ≤ c ∧ c ≤ 122) ∧ r = [.d (PyData.str word_), .un]) (sd_forM (word_.cps.toList) (fun c : Nat => PyData.str ⟨#[c]⟩) (fun (i5 : Nat) (r : En) => (∀ c ∈ word_.cps.toList.take i5, 97 ≤ c ∧ c ≤ 122) ∧ r = [.d (PyData.str word_), .un]) (passes_of rfl) rfl (id_str (pd_var 0 rfl)) ⟨_, (by repeat (first | exact Le.nil | apply Le.eq | apply Le.un)), ⟨(by intro c hc; simp at hc), rfl⟩⟩ (fun _ _ _ => trivial) (fun i5 a5 r ha_a5 hI => ?_) (fun r h => h)) ?_
    · obtain ⟨hI2, rfl⟩ := hI
      have hm_a5 := List.mem_of_getElem? ha_a5
      refine ⟨_, (gd_name 1 sc_is_name.nd), ?_⟩
      refine bd_env (ρ' := [.d (PyData.str word_), .d ((fun c : Nat => PyData.str ⟨#[c]⟩) a5)]) rfl ?_
      have hI7 := hI2
      have hm7 := hm_a5
      have ha7 := ha_a5
      -- hk3: if sign not in LETTERS
      refine bd_guard (k := (!decide (a5 ∈ ("abcdefghijklmnopqrstuvwxyz" : Str).cps.toList))) (td_notinSg (pd_var 1 rfl) (pd_gstr (Y.i_LETTERS).choose_spec)) (fun hk3 => ?_) (fun hk3 => ?_)
      · skip
        have hk3f := hk3; try simp only [decide_eq_true_eq, decide_eq_false_iff_not, Bool.and_eq_true, Bool.or_eq_true, Bool.not_eq_true', Bool.not_eq_false', Bool.and_eq_false_iff, Bool.or_eq_false_iff, Bool.not_true, Bool.not_false, List.isEmpty_iff] at hk3f
        have hN : nmOk word_ = false := by rw [← Bool.not_eq_true, nmOk_iff, signsOk_iff]; rintro ⟨h1, _⟩; have h9 := hk3f; exact h9 (abc_mem.mpr (h1 _ hm7))
        refine bd_one (sd_ret (x := (PyData.bool false)) pd_bl ?_)
        show (PyData.bool false) = (PyData.bool (nmOk word_))
        refine congrArg PyData.bool (?_ : (false : Bool) = (nmOk word_))
        exact hN.symm
      · skip
        have hk3f := hk3; try simp only [decide_eq_true_eq, decide_eq_false_iff_not, Bool.and_eq_true, Bool.or_eq_true, Bool.not_eq_true', Bool.not_eq_false', Bool.and_eq_false_iff, Bool.or_eq_false_iff, Bool.not_true, Bool.not_false, List.isEmpty_iff] at hk3f
        have hg8 : 97 ≤ a5 ∧ a5 ≤ 122 := by have h9 := hk3f; exact abc_mem.mp h9
        exact bd_nil ⟨_, (by repeat (first | exact Le.nil | apply Le.eq | apply Le.un)), ⟨(by intro c hc; rw [take_succ_of ha7] at hc; rcases List.mem_append.mp hc with z | z; exact hI7 c z; rw [List.mem_singleton.mp z]; exact hg8), rfl⟩⟩
    rintro r ⟨hI2, rfl⟩
    have hE := hI2
    rw [List.take_length] at hE
    refine bd_one (sd_ret (x := (PyData.bool true)) pd_bl ?_)
    show (PyData.bool true) = (PyData.bool (nmOk word_))
    refine congrArg PyData.bool (?_ : (true : Bool) = (nmOk word_))
    exact (nmOk_iff.mpr ⟨signsOk_iff.mpr hE, hL⟩).symm
theorem c_is_name (Y : Py P K mg) : Cal P w K mg base 1 "is_name" (spD K S_is_name) [] := by
  obtain ⟨fd, F⟩ := Y.d_is_name
  exact ⟨_, fd, _, [], f_is_name Y F, Y.g_is_name, F.kp, F.bindsN (ps := [("word" : Str)]) fun _ _ _ _ _ _ us hl => match us, hl with | [_], _ => rfl, .nil⟩
def S__law_good (ds : List PyData) (r : Res) : Prop := ∃ (word_ : Str), ds = [(PyData.str word_)] ∧ (word_.length ≤ 1000) ∧ r = .ret (PyData.bool (nmOk word_))
theorem f__law_good (Y : Py P K mg) {fd : FuncData} (F : FunD K "_law_good" "_law_good" (defArgs s__law_good) (defBody s__law_good) (defScope s__law_good) [] [] (He.ga K "_law_good") fd) : FnOk P w K mg base (L2N.CX P w) 1 (He.ga K "_law_good") fd [("word" : Str)] (spD K S__law_good) := by
  refine fn_DD F sc__law_good (fun ds r h => by obtain ⟨_, rfl, _⟩ := h; rfl) (by decide) (fun cdv A outer s H E hr ds r h => ?_)
  obtain ⟨word_, rfl, pre, rfl⟩ := h
  refine bd_env (ρ' := [.d (PyData.str word_), .un]) rfl ?_
  -- hk4: if not 1 <= len(word) <= 12
  refine bd_guard (k := (!((decide (1 ≤ (word_.length : Int))) && (decide ((word_.length : Int) ≤ 12))))) (td_not (td_chain (f := (fun i j => decide (i ≤ j))) (g := (fun i j => decide (i ≤ j))) (i := 1) (j := (word_.length : Int)) (l := 12) rfl rfl pd_int (pd_lenS (/- side 0 -/ by exact line_of (by omega)) Y.z_len (pd_var 0 rfl)) (fun _ => pd_int))) (fun hk4 => ?_) (fun hk4 => ?_)
  · skip
    have hk4f := hk4; try simp only [decide_eq_true_eq, decide_eq_false_iff_not, Bool.and_eq_true, Bool.or_eq_true, Bool.not_eq_true', Bool.not_eq_false', Bool.and_eq_false_iff, Bool.or_eq_false_iff, Bool.not_true, Bool.not_false, List.isEmpty_iff] at hk4f
    have hN : nmOk word_ = false := by rw [← Bool.not_eq_true, nmOk_iff]; rintro ⟨_, h1, h2⟩; have h9 := hk4; simp at h9; omega
    refine bd_one (sd_ret (x := (PyData.bool false)) pd_bl ?_)
    show (PyData.bool false) = (PyData.bool (nmOk word_))
    refine congrArg PyData.bool (?_ : (false : Bool) = (nmOk word_))
    exact hN.symm
  · skip
    have hk4f := hk4; try simp only [decide_eq_true_eq, decide_eq_false_iff_not, Bool.and_eq_true, Bool.or_eq_true, Bool.not_eq_true', Bool.not_eq_false', Bool.and_eq_false_iff, Bool.or_eq_false_iff, Bool.not_true, Bool.not_false, List.isEmpty_iff] at hk4f
    have hL : 1 ≤ word_.length ∧ word_.length ≤ 12 := by have h9 := hk4; simp at h9; omega
    refine bd_one (sd_ret (x := (PyData.bool (decide (((((word_.cps.toList).filter (fun (a5 : Nat) => (!decide (a5 ∈ ("abcdefghijklmnopqrstuvwxyz" : Str).cps.toList)))).map (fun (a5 : Nat) => a5)).length : Int) = 0)))) (pd_eqI (pd_lenD (f := (fun c : Nat => PyData.str ⟨#[c]⟩)) (ns := (((word_.cps.toList).filter (fun (a5 : Nat) => (!decide (a5 ∈ ("abcdefghijklmnopqrstuvwxyz" : Str).cps.toList)))).map (fun (a5 : Nat) => a5))) Y.z_len (pd_n (pn_lc (lcM (word_.cps.toList) (fun c : Nat => PyData.str ⟨#[c]⟩) (fun c : Nat => PyData.str ⟨#[c]⟩) (fun (a5 : Nat) => (!decide (a5 ∈ ("abcdefghijklmnopqrstuvwxyz" : Str).cps.toList))) (fun (a5 : Nat) => a5) (blkOk_by (own := [("sign", 1)]) (show blkC n__law_good (defScope s__law_good) _ _ = true by decide +kernel)) (id_str (pd_var 0 rfl)) (/- side 1 -/ by rw [← len_cps]; omega) (by intro _ h; cases h) (by trivial) (fun a5 ha => ⟨_, _, (fun Z hZ => by obtain ⟨s1, H1, C1, cl1, fp1, rfl⟩ := hZ; exact (gv_name 1 (by decide) sc__law_good.nd)), (fun Z hZ => by obtain ⟨s1, H1, C1, cl1, fp1, rfl⟩ := hZ; exact (tsd_one (td_notinSg (pd_var 1 rfl) pd_str))), (fun Z hZ hw => by obtain ⟨s1, H1, C1, cl1, fp1, rfl⟩ := hZ; exact (pd_var 1 rfl)), (by repeat (first | exact Le.nil | apply Le.eq | apply Le.un)), (by repeat (first | exact Le.nil | apply Le.eq | apply Le.un))⟩)) sc__law_good.nd))) pd_int) ?_)
    show (PyData.bool (decide (((((word_.cps.toList).filter (fun (a5 : Nat) => (!decide (a5 ∈ ("abcdefghijklmnopqrstuvwxyz" : Str).cps.toList)))).map (fun (a5 : Nat) => a5)).length : Int) = 0))) = (PyData.bool (nmOk word_))
    refine congrArg PyData.bool (?_ : ((decide (((((word_.cps.toList).filter (fun (a5 : Nat) => (!decide (a5 ∈ ("abcdefghijklmnopqrstuvwxyz" : Str).cps.toList)))).map (fun (a5 : Nat) => a5)).length : Int) = 0)) : Bool) = (nmOk word_))
    exact good_is63 hL
theorem c__law_good (Y : Py P K mg) : Cal P w K mg base 1 "_law_good" (spD K S__law_good) [] := by
  obtain ⟨fd, F⟩ := Y.d__law_good
  exact ⟨_, fd, _, [], f__law_good Y F, Y.g__law_good, F.kp, F.bindsN (ps := [("word" : Str)]) fun _ _ _ _ _ _ us hl => match us, hl with | [_], _ => rfl, .nil⟩
end
end GP
namespace GP
open PySem PySem.Spec PyProof.Rows L2 G
section
variable {P : Program} {w : World} {K : PySem.W.Frag} {mg : Str → Option Value} {base : Heap}

theorem inj__law_names {many_ many_' : Int} (h : ([(PyData.int many_)] : List PyData) = [(PyData.int many_')]) : many_ = many_' := by
  simp only [List.cons.injEq, PyData.int.injEq, PyData.bool.injEq, PyData.str.injEq, PyData.list.injEq, and_true] at h
  simp_all
def S__law_names (ds : List PyData) : Prop := ∃ (many_ : Int), ds = [(PyData.int many_)] ∧ (0 ≤ many_ ∧ many_ ≤ 26)
def R__law_names (many_ : Int) (y : PyData) : Prop := ∃ (z_ : (List Nm)), y = ((dL dNm) z_) ∧ (NmsOk many_ z_)
abbrev Q__law_names : List PyData → PyData → Prop := (fun ds y => ∀ (many_ : Int), ds = [(PyData.int many_)] → R__law_names many_ y)
theorem f__law_names (Y : Py P K mg) {fd : FuncData} (F : FunD K "_law_names" "_law_names" (defArgs s__law_names) (defBody s__law_names) (defScope s__law_names) [] [] (He.ga K "_law_names") fd) : FnOk P w K mg base (L2N.CX P w) 2 (He.ga K "_law_names") fd [("pool" : Str), ("many" : Str)] (spP K S__law_names Q__law_names) := by
  refine fn_PD F sc__law_names (fun ds h => by obtain ⟨_, rfl, _⟩ := h; rfl) (by decide) (fun cdv A outer s H E hr l_ p_ ds h => ?_)
  obtain ⟨many_, rfl, pre⟩ := h
  refine bd_env (ρ' := [.o (some l_) (.l (pl p_)), .d (PyData.int many_), .un, .un, .un, .un, .un, .un, .un]) rfl ?_
  refine bd_seq (sd_set 2 pd_str rfl sc__law_names.nd) ?_
  refine bd_env (ρ' := [.o (some l_) (.l (pl p_)), .d (PyData.int many_), .d (PyData.str ("abcdefghijklmnopqrstuvwxyz" : Str)), .un, .un, .un, .un, .un, .un]) rfl ?_
  obtain ⟨v6, q7, hv6, bv6⟩ := drawS p_ (n := 26) (by first | decide | omega) (by first | decide | omega)
  refine bd_seq (sd_set 3 (pd_callO (y := PyData.int v6) (xs' := pl q7) 0 (c__law_draw Y) hr .nil rfl (ad_cons pd_int ad_nil) rfl hv6) rfl sc__law_names.nd) ?_
  refine bd_env (ρ' := [.o (some l_) (.l (pl q7)), .d (PyData.int many_), .d (PyData.str ("abcdefghijklmnopqrstuvwxyz" : Str)), .d (PyData.int v6), .un, .un, .un, .un, .un]) rfl ?_
  obtain ⟨v8, q9, hv8, bv8⟩ := drawS q7 (n := 3) (by first | decide | omega) (by first | decide | omega)
  -- hk10: if many <= 26 and _law_draw(pool, 3) == 0
  refine bd_guard (k := (decide (v8 = 0))) (td_w (wd_and_t (td_cast (k := (decide (many_ ≤ 26))) (/- side 0 -/ by exact decide_eq_true (by omega)) (td_le (pd_var 1 rfl) pd_int)) (wd_and1 (td_eqI (pd_callO (y := PyData.int v8) (xs' := pl q9) 0 (c__law_draw Y) hr .nil rfl (ad_cons pd_int ad_nil) rfl hv8) pd_int)))) (fun hk10 => ?_) (fun hk10 => ?_)
  · skip
    have hk10f := hk10; try simp only [decide_eq_true_eq, decide_eq_false_iff_not, Bool.and_eq_true, Bool.or_eq_true, Bool.not_eq_true', Bool.not_eq_false', Bool.and_eq_false_iff, Bool.or_eq_false_iff, Bool.not_true, Bool.not_false, List.isEmpty_iff] at hk10f
    refine bd_one (sd_ret (x := ((dL PyData.str) ((List.range (many_).toNat).map (fun (a11 : Nat) => (ltr ((v6 + (a11 : Int)) % 26)))))) (pd_n (pn_lc (lcN (List.range (many_).toNat) (fun i : Nat => PyData.int (i : Int)) PyData.str (fun (a11 : Nat) => (ltr ((v6 + (a11 : Int)) % 26))) (blkOk_by (own := [("k", 4)]) (show blkC n__law_names (defScope s__law_names) _ _ = true by decide +kernel)) (id_rangeI Y.z_range (pd_var 1 rfl) (/- side 1 -/ by omega) (/- side 2 -/ by omega)) (/- side 5 -/ by first | omega | assumption | (have hi := List.mem_range.mp ha; omega) | (rw [List.length_range]; omega)) (by intro _ h; cases h) (by trivial) (fun a11 ha => ⟨_, _, (fun Z hZ => by obtain ⟨s1, H1, C1, cl1, fp1, rfl⟩ := hZ; exact (gv_name 4 (by decide) sc__law_names.nd)), (fun Z hZ => by obtain ⟨s1, H1, C1, cl1, fp1, rfl⟩ := hZ; exact (pd_cast (x := PyData.str ⟨#[97 + (((v6 + (a11 : Int)) % 26) : Int).toNat]⟩) (y := PyData.str (ltr ((v6 + (a11 : Int)) % 26))) rfl (pd_ixS (s := abc) (by decide) (abc_at (/- side 4 -/ by omega)) (pd_var 2 rfl) (pd_mod (/- side 3 -/ by first | omega | assumption | (have hi := List.mem_range.mp ha; omega) | (rw [List.length_range]; omega)) (pd_int1 Y.z_int (pd_add (pd_var 3 rfl) (pd_var 4 rfl))) pd_int)))), (by repeat (first | exact Le.nil | apply Le.eq | apply Le.un)), (by repeat (first | exact Le.nil | apply Le.eq | apply Le.un))⟩)) sc__law_names.nd)) ?_)
    refine ⟨fun z0_ e9 => ?_, _, rfl⟩
    obtain ⟨rfl⟩ := inj__law_names e9
    obtain ⟨z, hz, hn⟩ := nms_fam (n := many_.toNat) (fun k : Nat => ltr ((v6 + (k : Int)) % 26)) (fun k hk => ltr_ok (by omega)) (fun i j hi hj e => by have := ltr_inj (by omega) (by omega) e; omega)
    refine ⟨z, hz, ?_⟩
    rw [show ((many_.toNat : Nat) : Int) = many_ by omega] at hn
    exact hn
  · skip
    have hk10f := hk10; try simp only [decide_eq_true_eq, decide_eq_false_iff_not, Bool.and_eq_true, Bool.or_eq_true, Bool.not_eq_true', Bool.not_eq_false', Bool.and_eq_false_iff, Bool.or_eq_false_iff, Bool.not_true, Bool.not_false, List.isEmpty_iff] at hk10f
    obtain ⟨v12, q13, hv12, bv12⟩ := drawS q9 (n := 11) (by first | decide | omega) (by first | decide | omega)
    refine bd_seq (sd_set 5 (pd_join (sep := ("" : Str)) (ys := (scanV (fun (qq15 : Pool) (a14 : Nat) => (drawP qq15 26).2) (fun _ _ => true) (fun (qq15 : Pool) (a14 : Nat) => (ltr ((drawP qq15 26).1))) q13 (List.range (v12).toNat))) (/- side 10 -/ by rw [sum_ones (scan_mem2 _ _ _ (fun y : Str => y.length = 1) (fun q a => rfl) _ _), scan_len _ _ _ (fun _ _ => rfl), List.length_range]; show _ + _ * 0 ≤ _; omega) pd_str (by exact (pd_n (pn_lc (lcS (List.range (v12).toNat) (fun i : Nat => PyData.int (i : Int)) PyData.str (fun qq15 : Pool => [.o (some l_) (.l (pl qq15)), .d (PyData.int many_), .d (PyData.str ("abcdefghijklmnopqrstuvwxyz" : Str)), .d (PyData.int v6), .un, .un, .un, .un, .un]) (fun (qq15 : Pool) (a14 : Nat) => (drawP qq15 26).2) (fun _ _ => true) (fun (qq15 : Pool) (a14 : Nat) => (ltr ((drawP qq15 26).1))) q13 (blkOk_by (own := [("k", 4)]) (show blkC n__law_names (defScope s__law_names) _ _ = true by decide +kernel)) (id_rangeI Y.z_range (pd_callO (y := PyData.int v12) (xs' := pl q13) 0 (c__law_draw Y) hr .nil rfl (ad_cons pd_int ad_nil) rfl hv12) (/- side 6 -/ by omega) (/- side 7 -/ by omega)) (by repeat (first | exact Le.nil | apply Le.eq | apply Le.un)) (/- side 9 -/ by rw [List.length_range]; omega) (by intro _ h; cases h) (fun _ => trivial) (fun i a14 qq15 ha hs => ⟨_, _, _, (fun Z hZ => by obtain ⟨s1, H1, C1, cl1, fp1, rfl⟩ := hZ; exact (gv_name 4 (by decide) sc__law_names.nd)), (fun Z hZ => by obtain ⟨s1, H1, C1, cl1, fp1, rfl⟩ := hZ; exact tsd_nil), (fun Z hZ _ => by obtain ⟨s1, H1, C1, cl1, fp1, rfl⟩ := hZ; have bv16 := draw_bd qq15 (n := 26) (by first | decide | omega); exact (pd_cast (x := PyData.str ⟨#[97 + ((drawP qq15 26).1 : Int).toNat]⟩) (y := PyData.str (ltr ((drawP qq15 26).1))) rfl (pd_ixS (s := abc) (by decide) (abc_at (/- side 8 -/ by omega)) (pd_var 2 rfl) (pd_callO 0 (c__law_draw Y) hr .nil rfl (ad_cons pd_int ad_nil) rfl ⟨qq15, 26, _, rfl, rfl, ⟨by first | decide | omega, by first | decide | omega⟩, rfl, rfl, rfl⟩)))), (fun _ => (by repeat (first | exact Le.nil | apply Le.eq | apply Le.un))), (fun z => nomatch z)⟩)) sc__law_names.nd)))) rfl sc__law_names.nd) ?_
    refine bd_env (ρ' := [.o (some l_) (.l (pl ((List.range (v12).toNat).foldl (fun (qq15 : Pool) (a14 : Nat) => (drawP qq15 26).2) q13))), .d (PyData.int many_), .d (PyData.str ("abcdefghijklmnopqrstuvwxyz" : Str)), .d (PyData.int v6), .un, .d (PyData.str (Txt.join ("" : Str) (scanV (fun (qq15 : Pool) (a14 : Nat) => (drawP qq15 26).2) (fun _ _ => true) (fun (qq15 : Pool) (a14 : Nat) => (ltr ((drawP qq15 26).1))) q13 (List.range (v12).toNat)))), .un, .un, .un]) rfl ?_
    obtain ⟨common_18, hcommon_18⟩ : ∃ z : Str, ((Txt.join ("" : Str) (scanV (fun (qq15 : Pool) (a14 : Nat) => (drawP qq15 26).2) (fun _ _ => true) (fun (qq15 : Pool) (a14 : Nat) => (ltr ((drawP qq15 26).1))) q13 (List.range (v12).toNat))) : Str) = z := ⟨_, rfl⟩
    refine bd_env (ρ' := [.o (some l_) (.l (pl ((List.range (v12).toNat).foldl (fun (qq15 : Pool) (a14 : Nat) => (drawP qq15 26).2) q13))), .d (PyData.int many_), .d (PyData.str ("abcdefghijklmnopqrstuvwxyz" : Str)), .d (PyData.int v6), .un, .d (PyData.str common_18), .un, .un, .un]) (by rw [← hcommon_18]) ?_
    have hcs : signsOk common_18 = true := by rw [← hcommon_18]; exact join_ok (scan_mem2 _ _ _ (fun y : Str => signsOk y = true) (fun q a => signsOk_ltr (draw_bd _ (by decide))) _ _)
    have hcl : (common_18).length ≤ 10 := by rw [← hcommon_18, join_len (scan_mem2 _ _ _ (fun y : Str => y.length = 1) (fun q a => rfl) _ _), scan_len _ _ _ (fun _ _ => rfl), List.length_range]; omega
    obtain ⟨v19, q20, hv19, bv19⟩ := drawS ((List.range (v12).toNat).foldl (fun (qq15 : Pool) (a14 : Nat) => (drawP qq15 26).2) q13) (n := ((common_18.length : Int) + 1)) (by first | decide | omega) (by first | decide | omega)
    refine bd_seq (sd_set 6 (pd_callO (y := PyData.int v19) (xs' := pl q20) 0 (c__law_draw Y) hr .nil rfl (ad_cons (pd_add (pd_lenS (/- side 11 -/ by exact line_of (by omega)) Y.z_len (pd_var 5 rfl)) pd_int) ad_nil) rfl hv19) rfl sc__law_names.nd) ?_
    refine bd_env (ρ' := [.o (some l_) (.l (pl q20)), .d (PyData.int many_), .d (PyData.str ("abcdefghijklmnopqrstuvwxyz" : Str)), .d (PyData.int v6), .un, .d (PyData.str common_18), .d (PyData.int v19), .un, .un]) rfl ?_
    refine bd_seq (sd_setN 7 (pn_lst ad_nil) rfl sc__law_names.nd) ?_
    refine bd_env (ρ' := [.o (some l_) (.l (pl q20)), .d (PyData.int many_), .d (PyData.str ("abcdefghijklmnopqrstuvwxyz" : Str)), .d (PyData.int v6), .un, .d (PyData.str common_18), .d (PyData.int v19), .ol ([].map PyData.str), .un]) rfl ?_
    -- for for k in range(many):
    refine bd_cut (fun r : En => ∃ (found_21 : (List Str)), (found_21 = (List.range (List.range (many_).toNat).length).map (nmB common_18 v19 v6)) ∧ r = [.o (some l_) (.l (pl q20)), .d (PyData.int many_), .d (PyData.str ("abcdefghijklmnopqrstuvwxyz" : Str)), .d (PyData.int v6), .un, .d (PyData.str common_18), .d (PyData.int v19), .ol (found_21.map PyData.str), .un]) (sd_forM (List.range (many_).toNat) (fun i : Nat => PyData.int (i : Int)) (fun (i5 : Nat) (r : En) => ∃ (found_21 : (List Str)), (found_21 = (List.range i5).map (nmB common_18 v19 v6)) ∧ r = [.o (some l_) (.l (pl q20)), .d (PyData.int many_), .d (PyData.str ("abcdefghijklmnopqrstuvwxyz" : Str)), .d (PyData.int v6), .un, .d (PyData.str common_18), .d (PyData.int v19), .ol (found_21.map PyData.str), .un]) (passes_of rfl) rfl (id_rangeI Y.z_range (pd_var 1 rfl) (/- side 12 -/ by omega) (/- side 13 -/ by omega)) ⟨_, (by repeat (first | exact Le.nil | apply Le.eq | apply Le.un)), ⟨[], (by rfl), rfl⟩⟩ (fun _ _ _ => trivial) (fun i5 a22 r ha_a22 hI => ?_) (fun r h => h)) ?_
    · obtain ⟨found_21, hI23, rfl⟩ := hI
      obtain ⟨rfl, hi_i5⟩ := range_at ha_a22
      refine ⟨_, (gd_name 4 sc__law_names.nd), ?_⟩
      refine bd_env (ρ' := [.o (some l_) (.l (pl q20)), .d (PyData.int many_), .d (PyData.str ("abcdefghijklmnopqrstuvwxyz" : Str)), .d (PyData.int v6), .d (PyData.int (i5 : Int)), .d (PyData.str common_18), .d (PyData.int v19), .ol (found_21.map PyData.str), .un]) rfl ?_
      have hI7 := hI23
      have hi5 := hi_i5
      refine bd_seq (sd_set 8 (pd_addS (/- side 20 -/ by rw [len_ltr, len_ltr]; exact line_of (by decide)) (pd_cast (x := PyData.str ⟨#[97 + (((v6 + (i5 : Int)) % 26) : Int).toNat]⟩) (y := PyData.str (ltr ((v6 + (i5 : Int)) % 26))) rfl (pd_ixS (s := abc) (by decide) (abc_at (/- side 15 -/ by omega)) (pd_var 2 rfl) (pd_mod (/- side 14 -/ by first | omega | assumption | (have hi := List.mem_range.mp ha; omega) | (rw [List.length_range]; omega)) (pd_int1 Y.z_int (pd_add (pd_var 3 rfl) (pd_var 4 rfl))) pd_int))) (pd_cast (x := PyData.str ⟨#[97 + ((((v6 + (((i5 : Int) / 26) * 7)) + (i5 : Int)) % 26) : Int).toNat]⟩) (y := PyData.str (ltr (((v6 + (((i5 : Int) / 26) * 7)) + (i5 : Int)) % 26))) rfl (pd_ixS (s := abc) (by decide) (abc_at (/- side 19 -/ by omega)) (pd_var 2 rfl) (pd_mod (/- side 18 -/ by first | omega | assumption | (have hi := List.mem_range.mp ha; omega) | (rw [List.length_range]; omega)) (pd_int1 Y.z_int (pd_add (pd_add (pd_var 3 rfl) (pd_mul (/- side 17 -/ by first | exact .inl (by omega) | exact .inr (by omega)) (pd_fdiv (/- side 16 -/ by first | exact ⟨by omega, by omega⟩) (pd_var 4 rfl) pd_int) pd_int)) (pd_var 4 rfl))) pd_int)))) rfl sc__law_names.nd) ?_
      refine bd_env (ρ' := [.o (some l_) (.l (pl q20)), .d (PyData.int many_), .d (PyData.str ("abcdefghijklmnopqrstuvwxyz" : Str)), .d (PyData.int v6), .d (PyData.int (i5 : Int)), .d (PyData.str common_18), .d (PyData.int v19), .ol (found_21.map PyData.str), .d (PyData.str ((ltr ((v6 + (i5 : Int)) % 26)) ++ (ltr (((v6 + (((i5 : Int) / 26) * 7)) + (i5 : Int)) % 26))))]) rfl ?_
      obtain ⟨hL1, hL2⟩ := len_cut common_18 (k := v19) (by omega) (by omega)
      refine bd_seq (sd_appendM (f := PyData.str) (ns := found_21) (v := (((L2.cutS common_18 none (some v19)) ++ ((ltr ((v6 + (i5 : Int)) % 26)) ++ (ltr (((v6 + (((i5 : Int) / 26) * 7)) + (i5 : Int)) % 26)))) ++ (L2.cutS common_18 (some v19) none))) 7 rfl (pd_addS (/- side 24 -/ by rw [len_app, len_app, hL1, hL2, len_ltr, len_ltr]; exact line_of (by omega)) (pd_addS (/- side 22 -/ by rw [hL1, len_app, len_ltr, len_ltr]; exact line_of (by omega)) (pd_sliceS (s := common_18) (ol := none) (oh := (some v19)) (/- side 21 -/ by omega) (pd_var 5 rfl) od_none (od_some (pd_var 6 rfl))) (pd_var 8 rfl)) (pd_sliceS (s := common_18) (ol := (some v19)) (oh := none) (/- side 23 -/ by omega) (pd_var 5 rfl) (od_some (pd_var 6 rfl)) od_none)) rfl (/- side 25 -/ by rw [hI7, List.length_map, List.length_range]; omega) rfl) ?_
      refine bd_env (ρ' := [.o (some l_) (.l (pl q20)), .d (PyData.int many_), .d (PyData.str ("abcdefghijklmnopqrstuvwxyz" : Str)), .d (PyData.int v6), .d (PyData.int (i5 : Int)), .d (PyData.str common_18), .d (PyData.int v19), .ol ((found_21 ++ [(((L2.cutS common_18 none (some v19)) ++ ((ltr ((v6 + (i5 : Int)) % 26)) ++ (ltr (((v6 + (((i5 : Int) / 26) * 7)) + (i5 : Int)) % 26)))) ++ (L2.cutS common_18 (some v19) none))]).map PyData.str), .d (PyData.str ((ltr ((v6 + (i5 : Int)) % 26)) ++ (ltr (((v6 + (((i5 : Int) / 26) * 7)) + (i5 : Int)) % 26))))]) rfl ?_
      exact bd_nil ⟨_, (by repeat (first | exact Le.nil | apply Le.eq | apply Le.un)), ⟨(found_21 ++ [(((L2.cutS common_18 none (some v19)) ++ ((ltr ((v6 + (i5 : Int)) % 26)) ++ (ltr (((v6 + (((i5 : Int) / 26) * 7)) + (i5 : Int)) % 26)))) ++ (L2.cutS common_18 (some v19) none))]), (by rw [hI7, List.range_succ, List.map_append]; rfl), rfl⟩⟩
    rintro r ⟨found_21, hI23, rfl⟩
    have hE := hI23
    rw [List.length_range] at hE
    refine bd_one (sd_ret (x := ((dL PyData.str) found_21)) (pd_thaw 7 rfl) ?_)
    refine ⟨fun z0_ e9 => ?_, _, rfl⟩
    obtain ⟨rfl⟩ := inj__law_names e9
    obtain ⟨z, hz, hn⟩ := nms_fam (n := many_.toNat) (nmB common_18 v19 v6) (fun k hk => nmB_ok hcs hcl (by omega) (by omega) k) (fun i j hi hj e => by by_cases q : i = j; exact q; exact absurd e (nmB_ne (by omega) (by omega) (by omega) (by omega) q))
    refine ⟨z, by rw [hE]; exact hz, ?_⟩
    rw [show ((many_.toNat : Nat) : Int) = many_ by omega] at hn
    exact hn
theorem c__law_names (Y : Py P K mg) : Cal P w K mg base 2 "_law_names" (spP K S__law_names Q__law_names) [] := by
  obtain ⟨fd, F⟩ := Y.d__law_names
  exact ⟨_, fd, _, [], f__law_names Y F, Y.g__law_names, F.kp, F.bindsN (ps := [("pool" : Str), ("many" : Str)]) fun _ _ _ _ _ _ us hl => match us, hl with | [_, _], _ => rfl, .nil⟩
end
end GP
namespace GP
open PySem PySem.Spec PyProof.Rows L2 G
/-- ghost slots, by looking -/
def ghB (N : List Str) (sc : Scope) (n : Nat) (gs : List Nat) : Bool := gs.all fun g => decide (g < n) || (match N[g]? with | some y => (sc.names.lookup y).isNone | none => false)
theorem gh_of {N : List Str} {sc : Scope} {n : Nat} {gs : List Nat} (h : ghB N sc n gs = true) : ∀ g ∈ gs, n ≤ g → ∃ y, N[g]? = some y ∧ ¬ Vis sc y := fun g hg hn => by
  have h1 := List.all_eq_true.mp h g hg
  rw [decide_eq_false (by omega), Bool.false_or] at h1
  revert h1
  cases N[g]? with
  | none => intro h; cases h
  | some y =>
    intro h
    refine ⟨y, rfl, ?_⟩
    have h2 : sc.names.lookup y = none := Option.isNone_iff_eq_none.mp h
    rintro (z | z | z) <;> (rw [h2] at z; cases z)
section
variable {P : Program} {w : World} {K : PySem.W.Frag} {mg : Str → Option Value} {base : Heap}
def resN (K : PySem.W.Frag) (s : Str) : Res := if nmOk s = true then .ret (.str s) else .exc (.ref (He.ga K "InvalidName")) []
def S_checked_name (K : PySem.W.Frag) (ds : List PyData) (r : Res) : Prop := ∃ s : Str, ds = [.str s] ∧ s.length ≤ 1000 ∧ r = resN K s
theorem resN_y {s : Str} (h : nmOk s = true) : resN K s = .ret (.str s) := by unfold resN; rw [if_pos h]
theorem resN_n {s : Str} (h : ¬ nmOk s = true) : resN K s = .exc (.ref (He.ga K "InvalidName")) [] := by unfold resN; rw [if_neg h]
theorem c_checked_name (Y : Py P K mg) : Cal P w K mg base 2 "checked_name" (spD K (S_checked_name K)) [] := by
  obtain ⟨fd, F⟩ := Y.d_checked_name
  refine ⟨_, fd, _, [], fn_DD F sc_checked_name (fun ds r h => by obtain ⟨_, rfl, _⟩ := h; rfl) (by decide) (fun cdv A outer s H E hr ds r h => ?_), Y.g_checked_name, F.kp, F.bindsN (ps := [("word" : Str)]) fun _ _ _ _ _ _ us hl => match us, hl with | [_], _ => rfl, .nil⟩
  obtain ⟨x, rfl, hl, rfl⟩ := h
  refine bd_env (ρ' := [.d (.str x)]) rfl ?_
  unfold resN
  refine bd_guard (k := !nmOk x) (td_not (td_val (pd_call (c_is_name Y) hr .nil (ad_cons (pd_var 0 rfl) ad_nil) ⟨x, rfl, hl, rfl⟩))) (fun hk => ?_) (fun hk => ?_)
  · rw [if_neg (by simpa using hk)]
    exact bd_one (sd_raise1 rfl (L2N.takes_of rfl rfl rfl rfl) Y.x_InvalidName pd_str ⟨rfl, rfl⟩)
  · rw [if_pos (by simpa using hk)]
    exact bd_one (sd_ret (pd_var 0 rfl) rfl)
/-! ### the ledger -/
abbrev LF (p1 p2 : Addr) : List (Str × V) := [(("_owed" : Str), V.ref p1), (("_log" : Str), V.ref p2)]
abbrev tF (m : Tb) : Ct := oT (kT2 kA kA) PyData.int m
def LC (K : PySem.W.Frag) (p1 p2 : Addr) (s : St) : List Ct := [.n (He.ga K "Ledger") (LF p1 p2), .g p1 (tF s.1), .g p2 (.l (s.2.map dLg))]
def resO (K : PySem.W.Frag) : Oc → Res
  | .done => .ret .none
  | .name => .exc (.ref (He.ga K "InvalidName")) []
  | .number => .exc (.ref (He.ga K "InvalidNumber")) []
  | .notnow => .exc (.ref (He.ga K "NotNow")) [("reason", .str "too much")]
/-- few -/
def Few (s : St) : Prop := s.1.length ≤ 1000 ∧ s.2.length ≤ 1000
/-- the slots behind self -/
abbrev LS (K : PySem.W.Frag) (a p1 p2 : Addr) (s : St) (mid : List Sl) : En := .o (some a) (.n (He.ga K "Ledger") (LF p1 p2)) :: mid ++ [.o (some p1) (.g p1 (tF s.1)), .o (some p2) (.g p2 (.l (s.2.map dLg)))]
def S_owed (K : PySem.W.Frag) (ar : List Ar) (qs : List Addr) (cs : List Ct) (r : Res) (cs' : List Ct) : Prop := ∃ (a p1 p2 : Addr) (s : St) (d l : As), qs = [a, p1, p2] ∧ cs = LC K p1 p2 s ∧ ar = [.o 0, .d (dAs d), .d (dAs l)] ∧ r = .ret (.int (owd s.1 (d, l))) ∧ cs' = cs
theorem m_owed (Y : Py P K mg) : CalM P w K mg base 1 (He.ga K "Ledger") "owed" (spG K (S_owed K)) [] := by
  obtain ⟨fd, F⟩ := Y.d_Ledger_owed
  refine ⟨⟨_, fd, _, [], fn_G [0, 3, 4] F sc_Ledger_owed (by decide) (fun ar qs cs r cs' h => by obtain ⟨_, _, _, _, _, _, rfl, rfl, rfl, _⟩ := h; exact ⟨rfl, rfl, rfl⟩) (gh_of (by decide +kernel)) (by decide) (fun cdv A outer s H E hr ar qs cs r cs' h => ?_), Y.me_Ledger_owed, F.bindsN (ps := [("self" : Str), "debtor", "lender"]) fun _ _ _ _ _ _ us hl => match us, hl with | [_, _, _], _ => rfl, .nil⟩, Y.cl_Ledger⟩
  obtain ⟨a, p1, p2, st, d, l, rfl, rfl, rfl, rfl, rfl⟩ := h
  refine bd_env (ρ' := LS K a p1 p2 st [.d (dAs d), .d (dAs l)]) rfl ?_
  refine bd_one (sd_ret (x := .int (owd st.1 (d, l))) (pd_cast (getD_map PyData.int _ _) (pd_fget2 3 (G.Room.units65 hr) (pv_fld 0 3 Y.cl_Ledger Y.na_Ledger__owed rfl rfl rfl) rfl (pd_tup (ad_cons (pd_var 1 rfl) (ad_cons (pd_var 2 rfl) ad_nil))) pd_int rfl (.g (dk_t (kT2_inj kA_inj kA_inj) st.1 (d, l))) (.g (dk_t (kT2_inj kA_inj kA_inj) st.1 (d, l))))) ?_)
  exact ⟨rfl, rfl, rfl, rfl, trivial⟩
end
end GP

namespace GP
open PySem PySem.Spec PyProof.Rows L2 G
theorem log_app (l : List Lg) (x : Lg) : (l ++ [x]).map dLg = l.map dLg ++ [dLg x] := by rw [List.map_append]; rfl
section
variable {P : Program} {w : World} {K : PySem.W.Frag} {mg : Str → Option Value} {base : Heap}

def S_lend (K : PySem.W.Frag) (ar : List Ar) (qs : List Addr) (cs : List Ct) (r : Res) (cs' : List Ct) : Prop := ∃ (a p1 p2 : Addr) (s : St) (l d : As) (v : Option Int), qs = [a, p1, p2] ∧ cs = LC K p1 p2 s ∧ ar = [.o 0, .d (dAs l), .d (dAs d), .d (dV v)] ∧ (Few s ∧ l.1.length ≤ 1000 ∧ d.1.length ≤ 1000) ∧ r = resO K (stL s l d v).1 ∧ cs' = LC K p1 p2 (stL s l d v).2
theorem m_lend (Y : Py P K mg) : CalM P w K mg base 3 (He.ga K "Ledger") "lend" (spG K (S_lend K)) [] := by
  obtain ⟨fd, F⟩ := Y.d_Ledger_lend
  refine ⟨⟨_, fd, _, [], fn_G [0, 4, 5] F sc_Ledger_lend (by decide) (fun ar qs cs r cs' h => by obtain ⟨a, p1, p2, st, l, d, vv, rfl, rfl, rfl, hp, _, _⟩ := h; exact ⟨rfl, rfl, rfl⟩) (gh_of (by decide +kernel)) (by decide) (fun cdv A outer s H E hr ar qs cs r cs' h => ?_), Y.me_Ledger_lend, F.bindsN (ps := [("self" : Str), ("lender" : Str), ("debtor" : Str), ("amount" : Str)]) fun _ _ _ _ _ _ us hl => match us, hl with | [_, _, _, _], _ => rfl, .nil⟩, Y.cl_Ledger⟩
  obtain ⟨a, p1, p2, st, l, d, vv, rfl, rfl, rfl, hp, rfl, rfl⟩ := h
  obtain ⟨⟨hf1, hf2⟩, hl, hd⟩ := hp
  refine bd_env (ρ' := LS K a p1 p2 st [.d (dAs l), .d (dAs d), .d (dV vv)]) rfl ?_
  unfold stL
  by_cases h1 : nmOk l.1 = true
  case neg =>
    rw [if_neg h1]
    exact bd_guard_end (sd_exprX (px_call (L2N.takes_of rfl rfl rfl rfl) (c_checked_name Y) hr .nil (ad_cons (pd_var 1 rfl) ad_nil) ⟨l.1, rfl, by omega, (resN_n h1).symm⟩) ⟨⟨rfl, rfl⟩, rfl, rfl, rfl, trivial⟩)
  rw [if_pos h1]
  refine bd_seq (sd_expr (pd_call (c_checked_name Y) hr .nil (ad_cons (pd_var 1 rfl) ad_nil) ⟨l.1, rfl, by omega, (resN_y h1).symm⟩) rfl) ?_
  by_cases h2 : nmOk d.1 = true
  case neg =>
    rw [if_neg h2]
    exact bd_guard_end (sd_exprX (px_call (L2N.takes_of rfl rfl rfl rfl) (c_checked_name Y) hr .nil (ad_cons (pd_var 2 rfl) ad_nil) ⟨d.1, rfl, by omega, (resN_n h2).symm⟩) ⟨⟨rfl, rfl⟩, rfl, rfl, rfl, trivial⟩)
  rw [if_pos h2]
  refine bd_seq (sd_expr (pd_call (c_checked_name Y) hr .nil (ad_cons (pd_var 2 rfl) ad_nil) ⟨d.1, rfl, by omega, (resN_y h2).symm⟩) rfl) ?_
  by_cases h3 : l = d
  case pos =>
    rw [if_pos h3]
    refine bd_guard (k := true) (td_cast (k := decide (l = d)) (decide_eq_true h3) (td_eqT (m := 1) (f := dAs) (u := l) (v := d) (G.Room.units65 hr) eqd_as (by decide) (pd_var 1 rfl) (pd_var 2 rfl))) (fun _ => ?_) (fun z => nomatch z)
    exact bd_one (sd_raise1 rfl (L2N.takes_of rfl rfl rfl rfl) Y.x_InvalidNumber pd_str ⟨⟨rfl, rfl⟩, rfl, rfl, rfl, trivial⟩)
  rw [if_neg h3]
  refine bd_guard (k := false) (td_cast (k := decide (l = d)) (decide_eq_false h3) (td_eqT (m := 1) (f := dAs) (u := l) (v := d) (G.Room.units65 hr) eqd_as (by decide) (pd_var 1 rfl) (pd_var 2 rfl))) (fun z => nomatch z) (fun _ => ?_)
  by_cases h4 : okV vv = true
  case neg =>
    rw [if_neg h4]
    exact bd_guard_end (sd_exprX (px_call (L2N.takes_of rfl rfl rfl rfl) (c_checked_number_2 Y) hr (.int .nil) (ad_cons (pd_var 3 rfl) (ad_cons pd_int ad_nil)) ⟨dV vv, 1, 1000000, rfl, ⟨by cases vv <;> rfl, sml_of (by omega) (by omega), sml_of (by omega) (by omega)⟩, chk_bad (Bool.eq_false_iff.mpr h4)⟩) ⟨⟨rfl, rfl⟩, rfl, rfl, rfl, trivial⟩)
  rw [if_pos h4]
  refine bd_seq (sd_expr (pd_call (c_checked_number_2 Y) hr (.int .nil) (ad_cons (pd_var 3 rfl) (ad_cons pd_int ad_nil)) ⟨dV vv, 1, 1000000, rfl, ⟨by cases vv <;> rfl, sml_of (by omega) (by omega), sml_of (by omega) (by omega)⟩, chk_yes h4⟩) rfl) ?_
  obtain ⟨i, rfl, hi1, hi2⟩ := okV_some h4
  refine bd_seq (sd_fput 4 (G.Room.units65 hr) (pd_add (pd_cast (getD_map PyData.int _ _) (pd_fget2 4 (G.Room.units65 hr) (pv_fld 0 4 Y.cl_Ledger Y.na_Ledger__owed rfl rfl rfl) rfl (pd_tup (ad_cons (pd_var 2 rfl) (ad_cons (pd_var 1 rfl) ad_nil))) pd_int rfl (.g (dk_t (kT2_inj kA_inj kA_inj) st.1 (d, l))) (.g (dk_t (kT2_inj kA_inj kA_inj) st.1 (d, l))))) (pd_var 3 rfl)) (pv_fld 0 4 Y.cl_Ledger Y.na_Ledger__owed rfl rfl rfl) rfl (pd_tup (ad_cons (pd_var 2 rfl) (ad_cons (pd_var 1 rfl) ad_nil))) rfl (.g (dp_t (kT2_inj kA_inj kA_inj) st.1 (d, l) (owd st.1 (d, l) + i) (f := PyData.int) (by omega))) rfl) ?_
  refine bd_env (ρ' := LS K a p1 p2 (G.pv st.1 (d, l) (owd st.1 (d, l) + i), st.2) [.d (dAs l), .d (dAs d), .d (.int i)]) rfl ?_
  apply bd_one
  refine (sd_fapp 5 (pv_fld 0 5 Y.cl_Ledger Y.na_Ledger__log rfl rfl rfl) rfl (.g .l) (pd_tup (ad_cons pd_str (ad_cons (pd_var 1 rfl) (ad_cons (pd_var 2 rfl) (ad_cons (pd_var 3 rfl) ad_nil))))) rfl (.g .l) (by rw [List.length_map]; show st.2.length < 100000; omega) ?_)
  exact ⟨rfl, rfl, rfl, by rw [show (st.2 ++ [Lg.lend l d ((some i).getD 0)]).map dLg = _ from log_app _ _]; rfl, trivial⟩

end
end GP
namespace GP
open PySem PySem.Spec PyProof.Rows L2 G
theorem adr_LC {K : PySem.W.Frag} {p1 p2 : Addr} {s : St} {qs : List Addr} (h : Adr (LC K p1 p2 s) qs) : ∃ a, qs = [a, p1, p2] := by
  match qs, h with
  | [a, _, _], ⟨rfl, rfl, _⟩ => exact ⟨a, rfl⟩
/-- all debts above nothing -/
def rowsT (m : Tb) : List (As × As × Int) := ((m.map (·.1)).filter fun k => decide (0 < owd m k)).map fun k => (k.1, k.2, owd m k)
abbrev dRw : As × As × Int → PyData := dT3 dAs dAs PyData.int
theorem gv_mem63 {m : Tb} {k : As × As} (h : k ∈ m.map (·.1)) : gv m k = some (owd m k) := by
  obtain ⟨v, hv⟩ := gv_some h
  unfold owd; rw [hv]; rfl
def fLC (K : PySem.W.Frag) (s : St) : List Addr → List Ct
  | [p1, p2] => LC K p1 p2 s
  | _ => []
theorem gh1 {sc : Scope} {y : Str} (h : (sc.names.lookup y).isNone = true) : ¬ Vis sc y := by
  have h2 : sc.names.lookup y = none := Option.isNone_iff_eq_none.mp h
  rintro (z | z | z) <;> (rw [h2] at z; cases z)
theorem pn_env {X : Cx} {e : Expr} {ρ ρ' ρ'' : En} {ct : Ct} (h : PN X e ρ ct ρ') (he : ρ' = ρ'') : PN X e ρ ct ρ'' := by subst he; exact h
section
variable {P : Program} {w : World} {K : PySem.W.Frag} {mg : Str → Option Value} {base : Heap}

def S_pay (K : PySem.W.Frag) (ar : List Ar) (qs : List Addr) (cs : List Ct) (r : Res) (cs' : List Ct) : Prop := ∃ (a p1 p2 : Addr) (s : St) (d l : As) (v : Option Int), qs = [a, p1, p2] ∧ cs = LC K p1 p2 s ∧ ar = [.o 0, .d (dAs d), .d (dAs l), .d (dV v)] ∧ Few s ∧ r = resO K (stP s d l v).1 ∧ cs' = LC K p1 p2 (stP s d l v).2
theorem m_pay (Y : Py P K mg) : CalM P w K mg base 3 (He.ga K "Ledger") "pay" (spG K (S_pay K)) [] := by
  obtain ⟨fd, F⟩ := Y.d_Ledger_pay
  refine ⟨⟨_, fd, _, [], fn_G [0, 4, 5] F sc_Ledger_pay (by decide) (fun ar qs cs r cs' h => by obtain ⟨a, p1, p2, st, d, l, vv, rfl, rfl, rfl, hp, _, _⟩ := h; exact ⟨rfl, rfl, rfl⟩) (gh_of (by decide +kernel)) (by decide) (fun cdv A outer s H E hr ar qs cs r cs' h => ?_), Y.me_Ledger_pay, F.bindsN (ps := [("self" : Str), ("debtor" : Str), ("lender" : Str), ("amount" : Str)]) fun _ _ _ _ _ _ us hl => match us, hl with | [_, _, _, _], _ => rfl, .nil⟩, Y.cl_Ledger⟩
  obtain ⟨a, p1, p2, st, d, l, vv, rfl, rfl, rfl, hp, rfl, rfl⟩ := h
  obtain ⟨hf1, hf2⟩ := hp
  refine bd_env (ρ' := LS K a p1 p2 st [.d (dAs d), .d (dAs l), .d (dV vv)]) rfl ?_
  unfold stP
  by_cases h4 : okV vv = true
  case neg =>
    rw [if_neg h4]
    exact bd_guard_end (sd_exprX (px_call (L2N.takes_of rfl rfl rfl rfl) (c_checked_number_2 Y) hr (.int .nil) (ad_cons (pd_var 3 rfl) (ad_cons pd_int ad_nil)) ⟨dV vv, 1, 1000000, rfl, ⟨by cases vv <;> rfl, sml_of (by omega) (by omega), sml_of (by omega) (by omega)⟩, chk_bad (Bool.eq_false_iff.mpr h4)⟩) ⟨⟨rfl, rfl⟩, rfl, rfl, rfl, trivial⟩)
  rw [if_pos h4]
  refine bd_seq (sd_expr (pd_call (c_checked_number_2 Y) hr (.int .nil) (ad_cons (pd_var 3 rfl) (ad_cons pd_int ad_nil)) ⟨dV vv, 1, 1000000, rfl, ⟨by cases vv <;> rfl, sml_of (by omega) (by omega), sml_of (by omega) (by omega)⟩, chk_yes h4⟩) rfl) ?_
  obtain ⟨i, rfl, hi1, hi2⟩ := okV_some h4
  by_cases h5 : owd st.1 (d, l) < i
  case pos =>
    rw [if_pos (show owd st.1 (d, l) < (some i).getD 0 from h5)]
    refine bd_guard (k := true) (td_cast (k := decide (owd st.1 (d, l) < i)) (decide_eq_true h5) (td_lt (pd_methG 0 0 (m_owed Y) hr .nil (pv_name 0) rfl rfl rfl (ag_d (pd_var 1 rfl) (ag_d (pd_var 2 rfl) ag_nil)) (hs := [0, 4, 5]) (bs := [some a, some p1, some p2]) (cs := LC K p1 p2 st) (cs' := LC K p1 p2 st) (y := .int (owd st.1 (d, l))) ⟨rfl, rfl, rfl, trivial⟩ (by decide) (fun qs hq => by obtain ⟨a, rfl⟩ := adr_LC hq; exact ⟨a, p1, p2, st, d, l, rfl, rfl, rfl, rfl, rfl⟩)) (pd_var 3 rfl))) (fun _ => ?_) (fun z => nomatch z)
    exact bd_one (sd_raiseN rfl (L2N.takes_of rfl rfl rfl rfl) Y.n_NotNow (by intro h; cases h) hr pd_str ⟨⟨rfl, rfl⟩, rfl, rfl, rfl, trivial⟩)
  rw [if_neg (show ¬ owd st.1 (d, l) < (some i).getD 0 from h5)]
  refine bd_guard (k := false) (td_cast (k := decide (owd st.1 (d, l) < i)) (decide_eq_false h5) (td_lt (pd_methG 0 0 (m_owed Y) hr .nil (pv_name 0) rfl rfl rfl (ag_d (pd_var 1 rfl) (ag_d (pd_var 2 rfl) ag_nil)) (hs := [0, 4, 5]) (bs := [some a, some p1, some p2]) (cs := LC K p1 p2 st) (cs' := LC K p1 p2 st) (y := .int (owd st.1 (d, l))) ⟨rfl, rfl, rfl, trivial⟩ (by decide) (fun qs hq => by obtain ⟨a, rfl⟩ := adr_LC hq; exact ⟨a, p1, p2, st, d, l, rfl, rfl, rfl, rfl, rfl⟩)) (pd_var 3 rfl))) (fun z => nomatch z) (fun _ => ?_)
  refine bd_env (ρ' := LS K a p1 p2 st [.d (dAs d), .d (dAs l), .d (.int i)]) rfl ?_
  have hg := gv_of_owd h5 hi1
  refine bd_seq (sd_fput 4 (G.Room.units65 hr) (pd_sub (pd_fget 4 (G.Room.units65 hr) (pv_fld 0 4 Y.cl_Ledger Y.na_Ledger__owed rfl rfl rfl) rfl (pd_tup (ad_cons (pd_var 1 rfl) (ad_cons (pd_var 2 rfl) ad_nil))) rfl (.g (dk_ts (kT2_inj kA_inj kA_inj) hg))) (pd_var 3 rfl)) (pv_fld 0 4 Y.cl_Ledger Y.na_Ledger__owed rfl rfl rfl) rfl (pd_tup (ad_cons (pd_var 1 rfl) (ad_cons (pd_var 2 rfl) ad_nil))) rfl (.g (dp_t (kT2_inj kA_inj kA_inj) st.1 (d, l) (owd st.1 (d, l) - i) (f := PyData.int) (by omega))) rfl) ?_
  refine bd_env (ρ' := LS K a p1 p2 (G.pv st.1 (d, l) (owd st.1 (d, l) - i), st.2) [.d (dAs d), .d (dAs l), .d (.int i)]) rfl ?_
  apply bd_one
  refine sd_fapp 5 (pv_fld 0 5 Y.cl_Ledger Y.na_Ledger__log rfl rfl rfl) rfl (.g .l) (pd_tup (ad_cons pd_str (ad_cons (pd_var 1 rfl) (ad_cons (pd_var 2 rfl) (ad_cons (pd_var 3 rfl) ad_nil))))) rfl (.g .l) (by rw [List.length_map]; show st.2.length < 100000; omega) ?_
  exact ⟨rfl, rfl, rfl, by rw [show (st.2 ++ [Lg.pay d l ((some i).getD 0)]).map dLg = _ from log_app _ _]; rfl, trivial⟩

def S_pass_on (K : PySem.W.Frag) (ar : List Ar) (qs : List Addr) (cs : List Ct) (r : Res) (cs' : List Ct) : Prop := ∃ (a p1 p2 : Addr) (s : St) (d l o : As) (v : Option Int), qs = [a, p1, p2] ∧ cs = LC K p1 p2 s ∧ ar = [.o 0, .d (dAs d), .d (dAs l), .d (dAs o), .d (dV v)] ∧ (Few s ∧ o.1.length ≤ 1000) ∧ r = resO K (stQ s d l o v).1 ∧ cs' = LC K p1 p2 (stQ s d l o v).2
theorem m_pass_on (Y : Py P K mg) : CalM P w K mg base 3 (He.ga K "Ledger") "pass_on" (spG K (S_pass_on K)) [] := by
  obtain ⟨fd, F⟩ := Y.d_Ledger_pass_on
  refine ⟨⟨_, fd, _, [], fn_G [0, 5, 6] F sc_Ledger_pass_on (by decide) (fun ar qs cs r cs' h => by obtain ⟨a, p1, p2, st, d, l, o, vv, rfl, rfl, rfl, hp, _, _⟩ := h; exact ⟨rfl, rfl, rfl⟩) (gh_of (by decide +kernel)) (by decide) (fun cdv A outer s H E hr ar qs cs r cs' h => ?_), Y.me_Ledger_pass_on, F.bindsN (ps := [("self" : Str), ("debtor" : Str), ("lender" : Str), ("other" : Str), ("amount" : Str)]) fun _ _ _ _ _ _ us hl => match us, hl with | [_, _, _, _, _], _ => rfl, .nil⟩, Y.cl_Ledger⟩
  obtain ⟨a, p1, p2, st, d, l, o, vv, rfl, rfl, rfl, hp, rfl, rfl⟩ := h
  obtain ⟨⟨hf1, hf2⟩, ho⟩ := hp
  refine bd_env (ρ' := LS K a p1 p2 st [.d (dAs d), .d (dAs l), .d (dAs o), .d (dV vv)]) rfl ?_
  unfold stQ
  by_cases h1 : nmOk o.1 = true
  case neg =>
    rw [if_neg h1]
    exact bd_guard_end (sd_exprX (px_call (L2N.takes_of rfl rfl rfl rfl) (c_checked_name Y) hr .nil (ad_cons (pd_var 3 rfl) ad_nil) ⟨o.1, rfl, by omega, (resN_n h1).symm⟩) ⟨⟨rfl, rfl⟩, rfl, rfl, rfl, trivial⟩)
  rw [if_pos h1]
  refine bd_seq (sd_expr (pd_call (c_checked_name Y) hr .nil (ad_cons (pd_var 3 rfl) ad_nil) ⟨o.1, rfl, by omega, (resN_y h1).symm⟩) rfl) ?_
  by_cases h4 : okV vv = true
  case neg =>
    rw [if_neg h4]
    exact bd_guard_end (sd_exprX (px_call (L2N.takes_of rfl rfl rfl rfl) (c_checked_number_2 Y) hr (.int .nil) (ad_cons (pd_var 4 rfl) (ad_cons pd_int ad_nil)) ⟨dV vv, 1, 1000000, rfl, ⟨by cases vv <;> rfl, sml_of (by omega) (by omega), sml_of (by omega) (by omega)⟩, chk_bad (Bool.eq_false_iff.mpr h4)⟩) ⟨⟨rfl, rfl⟩, rfl, rfl, rfl, trivial⟩)
  rw [if_pos h4]
  refine bd_seq (sd_expr (pd_call (c_checked_number_2 Y) hr (.int .nil) (ad_cons (pd_var 4 rfl) (ad_cons pd_int ad_nil)) ⟨dV vv, 1, 1000000, rfl, ⟨by cases vv <;> rfl, sml_of (by omega) (by omega), sml_of (by omega) (by omega)⟩, chk_yes h4⟩) rfl) ?_
  obtain ⟨i, rfl, hi1, hi2⟩ := okV_some h4
  by_cases h5 : owd st.1 (d, l) < i
  case pos =>
    rw [if_pos (show owd st.1 (d, l) < (some i).getD 0 from h5)]
    refine bd_guard (k := true) (td_cast (k := decide (owd st.1 (d, l) < i)) (decide_eq_true h5) (td_lt (pd_methG 0 0 (m_owed Y) hr .nil (pv_name 0) rfl rfl rfl (ag_d (pd_var 1 rfl) (ag_d (pd_var 2 rfl) ag_nil)) (hs := [0, 5, 6]) (bs := [some a, some p1, some p2]) (cs := LC K p1 p2 st) (cs' := LC K p1 p2 st) (y := .int (owd st.1 (d, l))) ⟨rfl, rfl, rfl, trivial⟩ (by decide) (fun qs hq => by obtain ⟨a, rfl⟩ := adr_LC hq; exact ⟨a, p1, p2, st, d, l, rfl, rfl, rfl, rfl, rfl⟩)) (pd_var 4 rfl))) (fun _ => ?_) (fun z => nomatch z)
    exact bd_one (sd_raiseN rfl (L2N.takes_of rfl rfl rfl rfl) Y.n_NotNow (by intro h; cases h) hr pd_str ⟨⟨rfl, rfl⟩, rfl, rfl, rfl, trivial⟩)
  rw [if_neg (show ¬ owd st.1 (d, l) < (some i).getD 0 from h5)]
  refine bd_guard (k := false) (td_cast (k := decide (owd st.1 (d, l) < i)) (decide_eq_false h5) (td_lt (pd_methG 0 0 (m_owed Y) hr .nil (pv_name 0) rfl rfl rfl (ag_d (pd_var 1 rfl) (ag_d (pd_var 2 rfl) ag_nil)) (hs := [0, 5, 6]) (bs := [some a, some p1, some p2]) (cs := LC K p1 p2 st) (cs' := LC K p1 p2 st) (y := .int (owd st.1 (d, l))) ⟨rfl, rfl, rfl, trivial⟩ (by decide) (fun qs hq => by obtain ⟨a, rfl⟩ := adr_LC hq; exact ⟨a, p1, p2, st, d, l, rfl, rfl, rfl, rfl, rfl⟩)) (pd_var 4 rfl))) (fun z => nomatch z) (fun _ => ?_)
  refine bd_env (ρ' := LS K a p1 p2 st [.d (dAs d), .d (dAs l), .d (dAs o), .d (.int i)]) rfl ?_
  have hg := gv_of_owd h5 hi1
  refine bd_seq (sd_fput 5 (G.Room.units65 hr) (pd_sub (pd_fget 5 (G.Room.units65 hr) (pv_fld 0 5 Y.cl_Ledger Y.na_Ledger__owed rfl rfl rfl) rfl (pd_tup (ad_cons (pd_var 1 rfl) (ad_cons (pd_var 2 rfl) ad_nil))) rfl (.g (dk_ts (kT2_inj kA_inj kA_inj) hg))) (pd_var 4 rfl)) (pv_fld 0 5 Y.cl_Ledger Y.na_Ledger__owed rfl rfl rfl) rfl (pd_tup (ad_cons (pd_var 1 rfl) (ad_cons (pd_var 2 rfl) ad_nil))) rfl (.g (dp_t (kT2_inj kA_inj kA_inj) st.1 (d, l) (owd st.1 (d, l) - i) (f := PyData.int) (by omega))) rfl) ?_
  have hm := pv_le st.1 (d, l) (owd st.1 (d, l) - i)
  refine bd_env (ρ' := LS K a p1 p2 (G.pv st.1 (d, l) (owd st.1 (d, l) - i), st.2) [.d (dAs d), .d (dAs l), .d (dAs o), .d (.int i)]) rfl ?_
  refine bd_seq (ρ1 := LS K a p1 p2 (tbQ st.1 d l o i, st.2) [.d (dAs d), .d (dAs l), .d (dAs o), .d (.int i)]) (sd_if (k := !decide (o = d)) (td_neT (m := 1) (f := dAs) (u := o) (v := d) (G.Room.units65 hr) eqd_as (by decide) (pd_var 3 rfl) (pd_var 1 rfl)) (fun h => ?_) (fun h => ?_)) ?_
  · have hne : ¬ o = d := by simpa using h
    unfold tbQ
    rw [if_neg hne]
    exact bd_one (sd_fput 5 (G.Room.units65 hr) (pd_add (pd_cast (getD_map PyData.int _ _) (pd_fget2 5 (G.Room.units65 hr) (pv_fld 0 5 Y.cl_Ledger Y.na_Ledger__owed rfl rfl rfl) rfl (pd_tup (ad_cons (pd_var 1 rfl) (ad_cons (pd_var 3 rfl) ad_nil))) pd_int rfl (.g (dk_t (kT2_inj kA_inj kA_inj) (G.pv st.1 (d, l) (owd st.1 (d, l) - i)) (d, o))) (.g (dk_t (kT2_inj kA_inj kA_inj) (G.pv st.1 (d, l) (owd st.1 (d, l) - i)) (d, o))))) (pd_var 4 rfl)) (pv_fld 0 5 Y.cl_Ledger Y.na_Ledger__owed rfl rfl rfl) rfl (pd_tup (ad_cons (pd_var 1 rfl) (ad_cons (pd_var 3 rfl) ad_nil))) rfl (.g (dp_t (kT2_inj kA_inj kA_inj) (G.pv st.1 (d, l) (owd st.1 (d, l) - i)) (d, o) (owd (G.pv st.1 (d, l) (owd st.1 (d, l) - i)) (d, o) + i) (f := PyData.int) (by omega))) rfl)
  · have he : o = d := by simpa using h
    unfold tbQ
    rw [if_pos he]
    exact bd_nil rfl
  apply bd_one
  refine sd_fapp 6 (pv_fld 0 6 Y.cl_Ledger Y.na_Ledger__log rfl rfl rfl) rfl (.g .l) (pd_tup (ad_cons pd_str (ad_cons (pd_var 1 rfl) (ad_cons (pd_var 2 rfl) (ad_cons (pd_var 3 rfl) (ad_cons (pd_var 4 rfl) ad_nil)))))) rfl (.g .l) (by rw [List.length_map]; show st.2.length < 100000; omega) ?_
  exact ⟨rfl, rfl, rfl, by rw [show (st.2 ++ [Lg.pas d l o ((some i).getD 0)]).map dLg = _ from log_app _ _]; rfl, trivial⟩

def S_log (K : PySem.W.Frag) (ar : List Ar) (qs : List Addr) (cs : List Ct) (r : Res) (cs' : List Ct) : Prop := ∃ (a p1 p2 : Addr) (s : St), qs = [a, p1, p2] ∧ cs = LC K p1 p2 s ∧ ar = [.o 0] ∧ r = .ret (dL dLg s.2) ∧ cs' = LC K p1 p2 s
theorem m_log (Y : Py P K mg) : CalM P w K mg base 1 (He.ga K "Ledger") "log" (spG K (S_log K)) [] := by
  obtain ⟨fd, F⟩ := Y.d_Ledger_log
  refine ⟨⟨_, fd, _, [], fn_G [0, 1, 2] F sc_Ledger_log (by decide) (fun ar qs cs r cs' h => by obtain ⟨a, p1, p2, st, rfl, rfl, rfl, _, _⟩ := h; exact ⟨rfl, rfl, rfl⟩) (gh_of (by decide +kernel)) (by decide) (fun cdv A outer s H E hr ar qs cs r cs' h => ?_), Y.me_Ledger_log, F.bindsN (ps := [("self" : Str)]) fun _ _ _ _ _ _ us hl => match us, hl with | [_], _ => rfl, .nil⟩, Y.cl_Ledger⟩
  obtain ⟨a, p1, p2, st, rfl, rfl, rfl, rfl, rfl⟩ := h
  refine bd_env (ρ' := LS K a p1 p2 st []) rfl ?_
  refine bd_one (sd_ret (x := dL dLg st.2) (pd_n (pn_listF 2 Y.z_list (pv_fld 0 2 Y.cl_Ledger Y.na_Ledger__log rfl rfl rfl) rfl (.g .l))) ?_)
  exact ⟨rfl, rfl, rfl, rfl, trivial⟩

def S_debts (K : PySem.W.Frag) (ar : List Ar) (qs : List Addr) (cs : List Ct) (r : Res) (cs' : List Ct) : Prop := ∃ (a p1 p2 : Addr) (s : St), qs = [a, p1, p2] ∧ cs = LC K p1 p2 s ∧ ar = [.o 0] ∧ Few s ∧ r = .ret (dL dRw (srtD dRw (rowsT s.1))) ∧ cs' = LC K p1 p2 s
theorem m_debts (Y : Py P K mg) : CalM P w K mg base 1 (He.ga K "Ledger") "debts" (spG K (S_debts K)) [] := by
  obtain ⟨fd, F⟩ := Y.d_Ledger_debts
  refine ⟨⟨_, fd, _, [], fn_G [0, 2, 3] F sc_Ledger_debts (by decide) (fun ar qs cs r cs' h => by obtain ⟨a, p1, p2, st, rfl, rfl, rfl, hp, _, _⟩ := h; exact ⟨rfl, rfl, rfl⟩) (gh_of (by decide +kernel)) (by decide) (fun cdv A outer s H E hr ar qs cs r cs' h => ?_), Y.me_Ledger_debts, F.bindsN (ps := [("self" : Str)]) fun _ _ _ _ _ _ us hl => match us, hl with | [_], _ => rfl, .nil⟩, Y.cl_Ledger⟩
  obtain ⟨a, p1, p2, st, rfl, rfl, rfl, hp, rfl, rfl⟩ := h
  obtain ⟨hf1, hf2⟩ := hp
  refine bd_env (ρ' := LS K a p1 p2 st [.un]) rfl ?_
  refine bd_one (sd_ret (x := dL dRw (srtD dRw (rowsT st.1))) (ρ1 := LS K a p1 p2 st [.un]) ?_ ?_)
  · refine pd_n ?_
    refine pn_lock (ρ2 := LS K a p1 p2 st [.un]) 2 rfl (.g .t) (fun od u => ?_)
    have hm' : (cxOf (L2N.CX P w) P w K mg base n_Ledger_debts "Ledger.debts" (defScope s_Ledger_debts) (He.ma K (He.ga K "Ledger") "debts") cdv A outer s H E).mg ("sorted" : Str) = none := Y.z_sorted
    refine pn_sortedT (f := dRw) (ns := rowsT st.1) (G.Room.units65 hr) (fun a => ⟨((eqd_T3 eqd_as eqd_as eqd_int).lay a).1, Nat.le_trans ((eqd_T3 eqd_as eqd_as eqd_int).lay a).2 (by decide)⟩) (fun _ _ => rfl) (sbl_T3 _) hm' ?_ srcN
    unfold rowsT
    refine pq_n (pn_env (ρ' := restE ((LS K a p1 p2 st [.un]).set 2 (.o (some p1) (lk od u (.g p1 (tF st.1))))) ((LS K a p1 p2 st [.un]).set 2 (.o (some p1) (lk od u (.g p1 (tF st.1))))) [1]) (pn_lc ?_ sc_Ledger_debts.nd) rfl)
    refine lcM (own := [(("pair" : Str), 1)]) (src := some 2) (ok := fun r : En => r[2]? = some (.o (some p1) (.g p1 (.f od u (tF st.1))))) (st.1.map (·.1)) (dT2 dAs dAs) dRw (fun k => decide (0 < owd st.1 k)) (fun k => (k.1, k.2, owd st.1 k)) ?_ ?_ ?_ ?_ ?_ ?_
    · exact blkOk_by (own := [("pair", 1)]) (show blkC n_Ledger_debts (defScope s_Ledger_debts) _ _ = true by decide +kernel)
    · exact id_ft (f := PyData.int) (kt := kT2 kA kA) (m := st.1) 2 (fun _ => rfl) (pv_fld 0 2 Y.cl_Ledger Y.na_Ledger__owed rfl rfl rfl) rfl (.g .f)
    · rw [List.length_map]; omega
    · intro j h; cases h; decide
    · rfl
    · exact (fun k ha => ⟨_, _, (fun Z hZ => by obtain ⟨s1, H1, C1, cl1, fp1, rfl⟩ := hZ; exact (gv_name 1 (by decide) sc_Ledger_debts.nd)), (fun Z hZ => by obtain ⟨s1, H1, C1, cl1, fp1, rfl⟩ := hZ; exact (tsd_one (td_gt (pd_fget 2 (G.Room.units65 hr) (pv_fld 0 2 Y.cl_Ledger Y.na_Ledger__owed rfl rfl rfl) rfl (pd_var 1 rfl) rfl (.g (dk_lts (kT2_inj kA_inj kA_inj) (gv_mem63 ha)))) pd_int))), (fun Z hZ _ => by obtain ⟨s1, H1, C1, cl1, fp1, rfl⟩ := hZ; exact (pd_addT (xs := [dAs k.1, dAs k.2]) (ys := [.int (owd st.1 k)]) (pd_var 1 rfl) (pd_tup (ad_cons (pd_fget 2 (G.Room.units65 hr) (pv_fld 0 2 Y.cl_Ledger Y.na_Ledger__owed rfl rfl rfl) rfl (pd_var 1 rfl) rfl (.g (dk_lts (kT2_inj kA_inj kA_inj) (gv_mem63 ha)))) ad_nil)) (by show (3 : Nat) ≤ 100000; decide))), (by repeat (first | exact Le.nil | apply Le.eq | apply Le.un)), (by repeat (first | exact Le.nil | apply Le.eq | apply Le.un))⟩)
  · exact ⟨rfl, rfl, rfl, rfl, trivial⟩

theorem m_init (Y : Py P K mg) : CalI P w K mg base 1 "Ledger" (He.ga K "Ledger") (spI K (He.ga K "Ledger") fun ds n f => ds = [] ∧ n = 2 ∧ f = fLC K ([], [])) := by
  obtain ⟨fd, F⟩ := Y.d_Ledger___init__
  refine ⟨_, fd, _, fn_I [1, 2] F sc_Ledger___init__ (fun ds n f h => by obtain ⟨rfl, _⟩ := h; rfl) (by decide) (by decide) (fun cdv A outer s H E hr a ds n f h => ?_), Y.mk_Ledger, Y.g_Ledger, F.bindsN (ps := [("self" : Str)]) fun _ _ _ _ _ _ us hl => match us, hl with | [_], _ => rfl⟩
  obtain ⟨rfl, rfl, rfl⟩ := h
  refine bd_env (ρ' := [.o (some a) (.n (He.ga K "Ledger") []), .un, .un]) rfl ?_
  refine bd_fnew 0 1 Y.cl_Ledger Y.na_Ledger__owed pn_dictT (pv_name 0) rfl (by decide) rfl (gh1 (sc := defScope s_Ledger___init__) (by decide +kernel)) (fun p1 => ?_)
  refine bd_env (ρ' := [.o (some a) (.n (He.ga K "Ledger") [("_owed", .ref p1)]), .o none (.g p1 (tF [])), .un]) rfl ?_
  refine bd_fnew 0 2 Y.cl_Ledger Y.na_Ledger__log (pn_lst ad_nil) (pv_name 0) rfl (by show (1 : Nat) < 1000; decide) rfl (gh1 (sc := defScope s_Ledger___init__) (by decide +kernel)) (fun p2 => ?_)
  exact bd_nil ⟨[p1, p2], rfl, ⟨rfl, rfl, rfl, trivial⟩, rfl, rfl, trivial⟩

end
end GP
namespace GP
open PySem PySem.Spec PyProof.Rows L2 G
def ocT : Oc → Str
  | .done => "done"
  | .name => "name"
  | .number => "number"
  | .notnow => "not now too much"
theorem stL_nn (s : St) (l d : As) (v : Option Int) : (stL s l d v).1 ≠ .notnow := by
  unfold stL
  (repeat' split) <;> (intro h; cases h)
theorem stP_nn (s : St) (l d : As) (v : Option Int) : (stP s l d v).1 ≠ .name := by
  unfold stP
  (repeat' split) <;> (intro h; cases h)
section
variable {P : Program} {w : World} {K : PySem.W.Frag} {mg : Str → Option Value} {base : Heap}
def S_done (K : PySem.W.Frag) (ar : List Ar) (qs : List Addr) (cs : List Ct) (r : Res) (cs' : List Ct) : Prop := ∃ (a p1 p2 : Addr) (s : St) (d : Dd), qs = [a, p1, p2] ∧ cs = LC K p1 p2 s ∧ ar = [.o 0, .d (dDd d)] ∧ (Few s ∧ d.short) ∧ r = .ret (.str (ocT (step s d).1)) ∧ cs' = LC K p1 p2 (step s d).2
/-- the slots -/
abbrev DS (K : PySem.W.Frag) (a p1 p2 : Addr) (s : St) (d : PyData) (pr : Sl) : En := [.o (some a) (.n (He.ga K "Ledger") (LF p1 p2)), .d d, pr, .o (some p1) (.g p1 (tF s.1)), .o (some p2) (.g p2 (.l (s.2.map dLg)))]

theorem c__law_done (Y : Py P K mg) : Cal P w K mg base 4 "_law_done" (spG K (S_done K)) [] := by
  obtain ⟨fd, F⟩ := Y.d__law_done
  refine ⟨_, fd, _, [], fn_G [0, 3, 4] F sc__law_done (by decide) (fun ar qs cs r cs' h => by obtain ⟨_, _, _, _, _, rfl, rfl, rfl, _⟩ := h; exact ⟨rfl, rfl, rfl⟩) (gh_of (by decide +kernel)) (by decide) (fun cdv A outer s H E hr ar qs cs r cs' h => ?_), Y.g__law_done, F.kp, F.bindsN (ps := [("ledger" : Str), "row"]) fun _ _ _ _ _ _ us hl => match us, hl with | [_, _], _ => rfl, .nil⟩
  obtain ⟨a, p1, p2, st, dd, rfl, rfl, rfl, ⟨hf, hsh⟩, rfl, rfl⟩ := h
  refine bd_env (ρ' := DS K a p1 p2 st (dDd dd) .un) rfl ?_
  cases dd with
  | lend l d v =>
    obtain ⟨hl, hd⟩ := hsh
    show BD _ _ _ _ (DofG [0, 3, 4] [a, p1, p2] (LC K p1 p2 (stL st l d v).2) (.ret (.str (ocT (stL st l d v).1))))
    cases ho9 : (stL st l d v).1 with
    | done =>
      refine bd_seq (ρ1 := DS K a p1 p2 (stL st l d v).2 (dDd (.lend l d v)) .un) (sd_try_fr (C1 := He.ga K "NotNow") (c2 := .ref (He.ga K "GrainError")) 2 (fun _ _ _ => False) rfl rfl sc__law_done.nd ⟨rfl, by decide, .inl Y.g_NotNow⟩ ⟨rfl, by decide, .inl Y.x_GrainError.mg⟩ (L2N.takes_of rfl rfl rfl rfl) (fun W pn xe tk po => bd_one (sd_if (k := true) (td_cast (k := decide ((("lend" : Str)) = ("lend" : Str))) (by decide +kernel) (td_eqS (pd_ixT (i := 0) rfl (pd_var (x := (.tuple [.str "lend", dAs l, dAs d, dV v])) 1 rfl) pd_int) pd_str)) (fun _ => bd_one (sd_expr (pd_methG 0 0 (m_lend Y) hr .nil (pv_name 0) rfl rfl rfl (ag_d (pd_ixT (i := 1) rfl (pd_var (x := (.tuple [.str "lend", dAs l, dAs d, dV v])) 1 rfl) pd_int) (ag_d (pd_ixT (i := 2) rfl (pd_var (x := (.tuple [.str "lend", dAs l, dAs d, dV v])) 1 rfl) pd_int) (ag_d (pd_ixT (i := 3) rfl (pd_var (x := (.tuple [.str "lend", dAs l, dAs d, dV v])) 1 rfl) pd_int) ag_nil))) (hs := [0, 3, 4]) (bs := [some a, some p1, some p2]) (cs := LC K p1 p2 st) (cs' := LC K p1 p2 (stL st l d v).2) (y := .none) ⟨rfl, rfl, rfl, trivial⟩ (by decide) (fun qs hq => by obtain ⟨p0, rfl⟩ := adr_LC hq; exact ⟨p0, p1, p2, st, l, d, v, rfl, rfl, rfl, ⟨hf, hl, hd⟩, (by rw [ho9]; rfl), rfl⟩)) rfl)) (fun h => nomatch h))) (fun a oe cls d pn hz hv => pre_suite 2 (C1 := He.ga K "NotNow") ⟨Y.e_NotNow.hg, Y.e_NotNow.hk, Y.e_NotNow.hs, Y.e_NotNow.hd⟩ Y.n_NotNow.sup.noF rfl rfl (by decide) (by decide) a oe cls d pn hz hv) (fun _ _ _ h => h.elim)) ?_
      refine bd_one (sd_ret (x := .str "done") pd_str ?_)
      exact ⟨rfl, rfl, rfl, rfl, trivial⟩
    | name =>
      refine bd_guard_end (sd_try_fr (C1 := He.ga K "NotNow") (c2 := .ref (He.ga K "GrainError")) 2 (fun cls fs ρ' => cls = .ref (He.ga K "InvalidName") ∧ fs = [] ∧ ρ' = DS K a p1 p2 (stL st l d v).2 (dDd (.lend l d v)) .un) rfl rfl sc__law_done.nd ⟨rfl, by decide, .inl Y.g_NotNow⟩ ⟨rfl, by decide, .inl Y.x_GrainError.mg⟩ (L2N.takes_of rfl rfl rfl rfl) (fun W pn xe tk po => bd_one (sd_if (k := true) (td_cast (k := decide ((("lend" : Str)) = ("lend" : Str))) (by decide +kernel) (td_eqS (pd_ixT (i := 0) rfl (pd_var (x := (.tuple [.str "lend", dAs l, dAs d, dV v])) 1 rfl) pd_int) pd_str)) (fun _ => bd_one (sd_exprX (px_methG tk 0 0 (m_lend Y) hr .nil (pv_name 0) rfl rfl rfl (ag_d (pd_ixT (i := 1) rfl (pd_var (x := (.tuple [.str "lend", dAs l, dAs d, dV v])) 1 rfl) pd_int) (ag_d (pd_ixT (i := 2) rfl (pd_var (x := (.tuple [.str "lend", dAs l, dAs d, dV v])) 1 rfl) pd_int) (ag_d (pd_ixT (i := 3) rfl (pd_var (x := (.tuple [.str "lend", dAs l, dAs d, dV v])) 1 rfl) pd_int) ag_nil))) (hs := [0, 3, 4]) (bs := [some a, some p1, some p2]) (cs := LC K p1 p2 st) (cs' := LC K p1 p2 (stL st l d v).2) (cls := .ref (He.ga K "InvalidName")) (xs := []) ⟨rfl, rfl, rfl, trivial⟩ (by decide) (fun qs hq => by obtain ⟨p0, rfl⟩ := adr_LC hq; exact ⟨p0, p1, p2, st, l, d, v, rfl, rfl, rfl, ⟨hf, hl, hd⟩, (by rw [ho9]; rfl), rfl⟩)) ⟨rfl, rfl, rfl⟩)) (fun h => nomatch h))) (fun a oe cls d pn hz hv => pre_suite 2 (C1 := He.ga K "NotNow") ⟨Y.e_NotNow.hg, Y.e_NotNow.hk, Y.e_NotNow.hs, Y.e_NotNow.hd⟩ Y.n_NotNow.sup.noF rfl rfl (by decide) (by decide) a oe cls d pn hz hv) (fun cls fs ρ' hM => ?_))
      obtain ⟨rfl, rfl, rfl⟩ := hM
      refine .inr ⟨Y.m_InvalidName_NotNow, true, Y.m_InvalidName_GrainError, fun _ => ⟨rfl, fun a0 oe dx pn hz hv hd0 => ?_⟩, fun h => nomatch h⟩
      subst hd0
      refine bd_guard (k := false || !true) (td_w (wd_or (td_cast (k := decide (true = false)) (by decide) (td_eqT (m := 1) (f := PyData.bool) (u := true) (v := false) (by have h9 := G.Room.units65 hr; exact h9) eqd_bl (by decide) (pd_isX (vc := .ref (He.ga K "InvalidName")) 2 Y.e_InvalidName hz hv Y.k_InvalidName_InvalidName (fun u r => r) Y.z_isinstance rfl (pe_glob rfl Y.x_InvalidName.mg (v := .ref (He.ga K "InvalidName")) rfl)) (pd_isX (vc := .ref (He.ga K "InvalidNumber")) 2 Y.e_InvalidName hz hv Y.k_InvalidName_InvalidNumber (fun u r => r) Y.z_isinstance rfl (pe_glob rfl Y.x_InvalidNumber.mg (v := .ref (He.ga K "InvalidNumber")) rfl)))) (fun _ => wd_or1 (td_not (td_val (pd_isX (vc := .ty "ValueError") 2 Y.e_InvalidName hz hv Y.k_InvalidName_ValueError (fun u r => r) Y.z_isinstance rfl (pe_cls Y.z_ValueError rfl))))))) (fun h => nomatch h) (fun _ => ?_)
      refine bd_one (sd_ret (x := .str "name") (pd_if (k := true) (x := .str "name") (y := .str "number") (td_val (pd_isX (vc := .ref (He.ga K "InvalidName")) 2 Y.e_InvalidName hz hv Y.k_InvalidName_InvalidName (fun u r => r) Y.z_isinstance rfl (pe_glob rfl Y.x_InvalidName.mg (v := .ref (He.ga K "InvalidName")) rfl))) (fun _ => pd_str) (fun _ => pd_str)) ?_)
      exact ⟨rfl, rfl, rfl, rfl, trivial⟩
    | number =>
      refine bd_guard_end (sd_try_fr (C1 := He.ga K "NotNow") (c2 := .ref (He.ga K "GrainError")) 2 (fun cls fs ρ' => cls = .ref (He.ga K "InvalidNumber") ∧ fs = [] ∧ ρ' = DS K a p1 p2 (stL st l d v).2 (dDd (.lend l d v)) .un) rfl rfl sc__law_done.nd ⟨rfl, by decide, .inl Y.g_NotNow⟩ ⟨rfl, by decide, .inl Y.x_GrainError.mg⟩ (L2N.takes_of rfl rfl rfl rfl) (fun W pn xe tk po => bd_one (sd_if (k := true) (td_cast (k := decide ((("lend" : Str)) = ("lend" : Str))) (by decide +kernel) (td_eqS (pd_ixT (i := 0) rfl (pd_var (x := (.tuple [.str "lend", dAs l, dAs d, dV v])) 1 rfl) pd_int) pd_str)) (fun _ => bd_one (sd_exprX (px_methG tk 0 0 (m_lend Y) hr .nil (pv_name 0) rfl rfl rfl (ag_d (pd_ixT (i := 1) rfl (pd_var (x := (.tuple [.str "lend", dAs l, dAs d, dV v])) 1 rfl) pd_int) (ag_d (pd_ixT (i := 2) rfl (pd_var (x := (.tuple [.str "lend", dAs l, dAs d, dV v])) 1 rfl) pd_int) (ag_d (pd_ixT (i := 3) rfl (pd_var (x := (.tuple [.str "lend", dAs l, dAs d, dV v])) 1 rfl) pd_int) ag_nil))) (hs := [0, 3, 4]) (bs := [some a, some p1, some p2]) (cs := LC K p1 p2 st) (cs' := LC K p1 p2 (stL st l d v).2) (cls := .ref (He.ga K "InvalidNumber")) (xs := []) ⟨rfl, rfl, rfl, trivial⟩ (by decide) (fun qs hq => by obtain ⟨p0, rfl⟩ := adr_LC hq; exact ⟨p0, p1, p2, st, l, d, v, rfl, rfl, rfl, ⟨hf, hl, hd⟩, (by rw [ho9]; rfl), rfl⟩)) ⟨rfl, rfl, rfl⟩)) (fun h => nomatch h))) (fun a oe cls d pn hz hv => pre_suite 2 (C1 := He.ga K "NotNow") ⟨Y.e_NotNow.hg, Y.e_NotNow.hk, Y.e_NotNow.hs, Y.e_NotNow.hd⟩ Y.n_NotNow.sup.noF rfl rfl (by decide) (by decide) a oe cls d pn hz hv) (fun cls fs ρ' hM => ?_))
      obtain ⟨rfl, rfl, rfl⟩ := hM
      refine .inr ⟨Y.m_InvalidNumber_NotNow, true, Y.m_InvalidNumber_GrainError, fun _ => ⟨rfl, fun a0 oe dx pn hz hv hd0 => ?_⟩, fun h => nomatch h⟩
      subst hd0
      refine bd_guard (k := false || !true) (td_w (wd_or (td_cast (k := decide (false = true)) (by decide) (td_eqT (m := 1) (f := PyData.bool) (u := false) (v := true) (by have h9 := G.Room.units65 hr; exact h9) eqd_bl (by decide) (pd_isX (vc := .ref (He.ga K "InvalidName")) 2 Y.e_InvalidNumber hz hv Y.k_InvalidNumber_InvalidName (fun u r => r) Y.z_isinstance rfl (pe_glob rfl Y.x_InvalidName.mg (v := .ref (He.ga K "InvalidName")) rfl)) (pd_isX (vc := .ref (He.ga K "InvalidNumber")) 2 Y.e_InvalidNumber hz hv Y.k_InvalidNumber_InvalidNumber (fun u r => r) Y.z_isinstance rfl (pe_glob rfl Y.x_InvalidNumber.mg (v := .ref (He.ga K "InvalidNumber")) rfl)))) (fun _ => wd_or1 (td_not (td_val (pd_isX (vc := .ty "ValueError") 2 Y.e_InvalidNumber hz hv Y.k_InvalidNumber_ValueError (fun u r => r) Y.z_isinstance rfl (pe_cls Y.z_ValueError rfl))))))) (fun h => nomatch h) (fun _ => ?_)
      refine bd_one (sd_ret (x := .str "number") (pd_if (k := false) (x := .str "name") (y := .str "number") (td_val (pd_isX (vc := .ref (He.ga K "InvalidName")) 2 Y.e_InvalidNumber hz hv Y.k_InvalidNumber_InvalidName (fun u r => r) Y.z_isinstance rfl (pe_glob rfl Y.x_InvalidName.mg (v := .ref (He.ga K "InvalidName")) rfl))) (fun _ => pd_str) (fun _ => pd_str)) ?_)
      exact ⟨rfl, rfl, rfl, rfl, trivial⟩
    | notnow => exact absurd ho9 (stL_nn _ _ _ _)
  | pay d l v =>
    obtain ⟨hd, hl⟩ := hsh
    show BD _ _ _ _ (DofG [0, 3, 4] [a, p1, p2] (LC K p1 p2 (stP st d l v).2) (.ret (.str (ocT (stP st d l v).1))))
    cases ho9 : (stP st d l v).1 with
    | done =>
      refine bd_seq (ρ1 := DS K a p1 p2 (stP st d l v).2 (dDd (.pay d l v)) .un) (sd_try_fr (C1 := He.ga K "NotNow") (c2 := .ref (He.ga K "GrainError")) 2 (fun _ _ _ => False) rfl rfl sc__law_done.nd ⟨rfl, by decide, .inl Y.g_NotNow⟩ ⟨rfl, by decide, .inl Y.x_GrainError.mg⟩ (L2N.takes_of rfl rfl rfl rfl) (fun W pn xe tk po => bd_one (sd_if (k := false) (td_cast (k := decide ((("pay" : Str)) = ("lend" : Str))) (by decide +kernel) (td_eqS (pd_ixT (i := 0) rfl (pd_var (x := (.tuple [.str "pay", dAs d, dAs l, dV v])) 1 rfl) pd_int) pd_str)) (fun h => nomatch h) (fun _ => bd_one (sd_if (k := true) (td_cast (k := decide ((("pay" : Str)) = ("pay" : Str))) (by decide +kernel) (td_eqS (pd_ixT (i := 0) rfl (pd_var (x := (.tuple [.str "pay", dAs d, dAs l, dV v])) 1 rfl) pd_int) pd_str)) (fun _ => bd_one (sd_expr (pd_methG 0 0 (m_pay Y) hr .nil (pv_name 0) rfl rfl rfl (ag_d (pd_ixT (i := 1) rfl (pd_var (x := (.tuple [.str "pay", dAs d, dAs l, dV v])) 1 rfl) pd_int) (ag_d (pd_ixT (i := 2) rfl (pd_var (x := (.tuple [.str "pay", dAs d, dAs l, dV v])) 1 rfl) pd_int) (ag_d (pd_ixT (i := 3) rfl (pd_var (x := (.tuple [.str "pay", dAs d, dAs l, dV v])) 1 rfl) pd_int) ag_nil))) (hs := [0, 3, 4]) (bs := [some a, some p1, some p2]) (cs := LC K p1 p2 st) (cs' := LC K p1 p2 (stP st d l v).2) (y := .none) ⟨rfl, rfl, rfl, trivial⟩ (by decide) (fun qs hq => by obtain ⟨p0, rfl⟩ := adr_LC hq; exact ⟨p0, p1, p2, st, d, l, v, rfl, rfl, rfl, hf, (by rw [ho9]; rfl), rfl⟩)) rfl)) (fun h => nomatch h))))) (fun a oe cls d pn hz hv => pre_suite 2 (C1 := He.ga K "NotNow") ⟨Y.e_NotNow.hg, Y.e_NotNow.hk, Y.e_NotNow.hs, Y.e_NotNow.hd⟩ Y.n_NotNow.sup.noF rfl rfl (by decide) (by decide) a oe cls d pn hz hv) (fun _ _ _ h => h.elim)) ?_
      refine bd_one (sd_ret (x := .str "done") pd_str ?_)
      exact ⟨rfl, rfl, rfl, rfl, trivial⟩
    | name => exact absurd ho9 (stP_nn _ _ _ _)
    | number =>
      refine bd_guard_end (sd_try_fr (C1 := He.ga K "NotNow") (c2 := .ref (He.ga K "GrainError")) 2 (fun cls fs ρ' => cls = .ref (He.ga K "InvalidNumber") ∧ fs = [] ∧ ρ' = DS K a p1 p2 (stP st d l v).2 (dDd (.pay d l v)) .un) rfl rfl sc__law_done.nd ⟨rfl, by decide, .inl Y.g_NotNow⟩ ⟨rfl, by decide, .inl Y.x_GrainError.mg⟩ (L2N.takes_of rfl rfl rfl rfl) (fun W pn xe tk po => bd_one (sd_if (k := false) (td_cast (k := decide ((("pay" : Str)) = ("lend" : Str))) (by decide +kernel) (td_eqS (pd_ixT (i := 0) rfl (pd_var (x := (.tuple [.str "pay", dAs d, dAs l, dV v])) 1 rfl) pd_int) pd_str)) (fun h => nomatch h) (fun _ => bd_one (sd_if (k := true) (td_cast (k := decide ((("pay" : Str)) = ("pay" : Str))) (by decide +kernel) (td_eqS (pd_ixT (i := 0) rfl (pd_var (x := (.tuple [.str "pay", dAs d, dAs l, dV v])) 1 rfl) pd_int) pd_str)) (fun _ => bd_one (sd_exprX (px_methG tk 0 0 (m_pay Y) hr .nil (pv_name 0) rfl rfl rfl (ag_d (pd_ixT (i := 1) rfl (pd_var (x := (.tuple [.str "pay", dAs d, dAs l, dV v])) 1 rfl) pd_int) (ag_d (pd_ixT (i := 2) rfl (pd_var (x := (.tuple [.str "pay", dAs d, dAs l, dV v])) 1 rfl) pd_int) (ag_d (pd_ixT (i := 3) rfl (pd_var (x := (.tuple [.str "pay", dAs d, dAs l, dV v])) 1 rfl) pd_int) ag_nil))) (hs := [0, 3, 4]) (bs := [some a, some p1, some p2]) (cs := LC K p1 p2 st) (cs' := LC K p1 p2 (stP st d l v).2) (cls := .ref (He.ga K "InvalidNumber")) (xs := []) ⟨rfl, rfl, rfl, trivial⟩ (by decide) (fun qs hq => by obtain ⟨p0, rfl⟩ := adr_LC hq; exact ⟨p0, p1, p2, st, d, l, v, rfl, rfl, rfl, hf, (by rw [ho9]; rfl), rfl⟩)) ⟨rfl, rfl, rfl⟩)) (fun h => nomatch h))))) (fun a oe cls d pn hz hv => pre_suite 2 (C1 := He.ga K "NotNow") ⟨Y.e_NotNow.hg, Y.e_NotNow.hk, Y.e_NotNow.hs, Y.e_NotNow.hd⟩ Y.n_NotNow.sup.noF rfl rfl (by decide) (by decide) a oe cls d pn hz hv) (fun cls fs ρ' hM => ?_))
      obtain ⟨rfl, rfl, rfl⟩ := hM
      refine .inr ⟨Y.m_InvalidNumber_NotNow, true, Y.m_InvalidNumber_GrainError, fun _ => ⟨rfl, fun a0 oe dx pn hz hv hd0 => ?_⟩, fun h => nomatch h⟩
      subst hd0
      refine bd_guard (k := false || !true) (td_w (wd_or (td_cast (k := decide (false = true)) (by decide) (td_eqT (m := 1) (f := PyData.bool) (u := false) (v := true) (by have h9 := G.Room.units65 hr; exact h9) eqd_bl (by decide) (pd_isX (vc := .ref (He.ga K "InvalidName")) 2 Y.e_InvalidNumber hz hv Y.k_InvalidNumber_InvalidName (fun u r => r) Y.z_isinstance rfl (pe_glob rfl Y.x_InvalidName.mg (v := .ref (He.ga K "InvalidName")) rfl)) (pd_isX (vc := .ref (He.ga K "InvalidNumber")) 2 Y.e_InvalidNumber hz hv Y.k_InvalidNumber_InvalidNumber (fun u r => r) Y.z_isinstance rfl (pe_glob rfl Y.x_InvalidNumber.mg (v := .ref (He.ga K "InvalidNumber")) rfl)))) (fun _ => wd_or1 (td_not (td_val (pd_isX (vc := .ty "ValueError") 2 Y.e_InvalidNumber hz hv Y.k_InvalidNumber_ValueError (fun u r => r) Y.z_isinstance rfl (pe_cls Y.z_ValueError rfl))))))) (fun h => nomatch h) (fun _ => ?_)
      refine bd_one (sd_ret (x := .str "number") (pd_if (k := false) (x := .str "name") (y := .str "number") (td_val (pd_isX (vc := .ref (He.ga K "InvalidName")) 2 Y.e_InvalidNumber hz hv Y.k_InvalidNumber_InvalidName (fun u r => r) Y.z_isinstance rfl (pe_glob rfl Y.x_InvalidName.mg (v := .ref (He.ga K "InvalidName")) rfl))) (fun _ => pd_str) (fun _ => pd_str)) ?_)
      exact ⟨rfl, rfl, rfl, rfl, trivial⟩
    | notnow =>
      refine bd_guard_end (sd_try_fr (C1 := He.ga K "NotNow") (c2 := .ref (He.ga K "GrainError")) 2 (fun cls fs ρ' => cls = .ref (He.ga K "NotNow") ∧ fs = [(("reason" : Str), PyData.str ("too much" : Str))] ∧ ρ' = DS K a p1 p2 (stP st d l v).2 (dDd (.pay d l v)) .un) rfl rfl sc__law_done.nd ⟨rfl, by decide, .inl Y.g_NotNow⟩ ⟨rfl, by decide, .inl Y.x_GrainError.mg⟩ (L2N.takes_of rfl rfl rfl rfl) (fun W pn xe tk po => bd_one (sd_if (k := false) (td_cast (k := decide ((("pay" : Str)) = ("lend" : Str))) (by decide +kernel) (td_eqS (pd_ixT (i := 0) rfl (pd_var (x := (.tuple [.str "pay", dAs d, dAs l, dV v])) 1 rfl) pd_int) pd_str)) (fun h => nomatch h) (fun _ => bd_one (sd_if (k := true) (td_cast (k := decide ((("pay" : Str)) = ("pay" : Str))) (by decide +kernel) (td_eqS (pd_ixT (i := 0) rfl (pd_var (x := (.tuple [.str "pay", dAs d, dAs l, dV v])) 1 rfl) pd_int) pd_str)) (fun _ => bd_one (sd_exprX (px_methG tk 0 0 (m_pay Y) hr .nil (pv_name 0) rfl rfl rfl (ag_d (pd_ixT (i := 1) rfl (pd_var (x := (.tuple [.str "pay", dAs d, dAs l, dV v])) 1 rfl) pd_int) (ag_d (pd_ixT (i := 2) rfl (pd_var (x := (.tuple [.str "pay", dAs d, dAs l, dV v])) 1 rfl) pd_int) (ag_d (pd_ixT (i := 3) rfl (pd_var (x := (.tuple [.str "pay", dAs d, dAs l, dV v])) 1 rfl) pd_int) ag_nil))) (hs := [0, 3, 4]) (bs := [some a, some p1, some p2]) (cs := LC K p1 p2 st) (cs' := LC K p1 p2 (stP st d l v).2) (cls := .ref (He.ga K "NotNow")) (xs := [(("reason" : Str), PyData.str ("too much" : Str))]) ⟨rfl, rfl, rfl, trivial⟩ (by decide) (fun qs hq => by obtain ⟨p0, rfl⟩ := adr_LC hq; exact ⟨p0, p1, p2, st, d, l, v, rfl, rfl, rfl, hf, (by rw [ho9]; rfl), rfl⟩)) ⟨rfl, rfl, rfl⟩)) (fun h => nomatch h))))) (fun a oe cls d pn hz hv => pre_suite 2 (C1 := He.ga K "NotNow") ⟨Y.e_NotNow.hg, Y.e_NotNow.hk, Y.e_NotNow.hs, Y.e_NotNow.hd⟩ Y.n_NotNow.sup.noF rfl rfl (by decide) (by decide) a oe cls d pn hz hv) (fun cls fs ρ' hM => ?_))
      obtain ⟨rfl, rfl, rfl⟩ := hM
      refine .inl ⟨Y.m_NotNow_NotNow, rfl, "too much", rfl, by decide +kernel, fun a0 => ?_⟩
      exact ⟨congrArg PyData.str (by decide +kernel), rfl, rfl, rfl, trivial⟩
  | pas d l o v =>
    obtain ⟨hd, hl, ho⟩ := hsh
    show BD _ _ _ _ (DofG [0, 3, 4] [a, p1, p2] (LC K p1 p2 (stQ st d l o v).2) (.ret (.str (ocT (stQ st d l o v).1))))
    cases ho9 : (stQ st d l o v).1 with
    | done =>
      refine bd_seq (ρ1 := DS K a p1 p2 (stQ st d l o v).2 (dDd (.pas d l o v)) .un) (sd_try_fr (C1 := He.ga K "NotNow") (c2 := .ref (He.ga K "GrainError")) 2 (fun _ _ _ => False) rfl rfl sc__law_done.nd ⟨rfl, by decide, .inl Y.g_NotNow⟩ ⟨rfl, by decide, .inl Y.x_GrainError.mg⟩ (L2N.takes_of rfl rfl rfl rfl) (fun W pn xe tk po => bd_one (sd_if (k := false) (td_cast (k := decide ((("pass" : Str)) = ("lend" : Str))) (by decide +kernel) (td_eqS (pd_ixT (i := 0) rfl (pd_var (x := (.tuple [.str "pass", dAs d, dAs l, dAs o, dV v])) 1 rfl) pd_int) pd_str)) (fun h => nomatch h) (fun _ => bd_one (sd_if (k := false) (td_cast (k := decide ((("pass" : Str)) = ("pay" : Str))) (by decide +kernel) (td_eqS (pd_ixT (i := 0) rfl (pd_var (x := (.tuple [.str "pass", dAs d, dAs l, dAs o, dV v])) 1 rfl) pd_int) pd_str)) (fun h => nomatch h) (fun _ => bd_one (sd_expr (pd_methG 0 0 (m_pass_on Y) hr .nil (pv_name 0) rfl rfl rfl (ag_d (pd_ixT (i := 1) rfl (pd_var (x := (.tuple [.str "pass", dAs d, dAs l, dAs o, dV v])) 1 rfl) pd_int) (ag_d (pd_ixT (i := 2) rfl (pd_var (x := (.tuple [.str "pass", dAs d, dAs l, dAs o, dV v])) 1 rfl) pd_int) (ag_d (pd_ixT (i := 3) rfl (pd_var (x := (.tuple [.str "pass", dAs d, dAs l, dAs o, dV v])) 1 rfl) pd_int) (ag_d (pd_ixT (i := 4) rfl (pd_var (x := (.tuple [.str "pass", dAs d, dAs l, dAs o, dV v])) 1 rfl) pd_int) ag_nil)))) (hs := [0, 3, 4]) (bs := [some a, some p1, some p2]) (cs := LC K p1 p2 st) (cs' := LC K p1 p2 (stQ st d l o v).2) (y := .none) ⟨rfl, rfl, rfl, trivial⟩ (by decide) (fun qs hq => by obtain ⟨p0, rfl⟩ := adr_LC hq; exact ⟨p0, p1, p2, st, d, l, o, v, rfl, rfl, rfl, ⟨hf, ho⟩, (by rw [ho9]; rfl), rfl⟩)) rfl)))))) (fun a oe cls d pn hz hv => pre_suite 2 (C1 := He.ga K "NotNow") ⟨Y.e_NotNow.hg, Y.e_NotNow.hk, Y.e_NotNow.hs, Y.e_NotNow.hd⟩ Y.n_NotNow.sup.noF rfl rfl (by decide) (by decide) a oe cls d pn hz hv) (fun _ _ _ h => h.elim)) ?_
      refine bd_one (sd_ret (x := .str "done") pd_str ?_)
      exact ⟨rfl, rfl, rfl, rfl, trivial⟩
    | name =>
      refine bd_guard_end (sd_try_fr (C1 := He.ga K "NotNow") (c2 := .ref (He.ga K "GrainError")) 2 (fun cls fs ρ' => cls = .ref (He.ga K "InvalidName") ∧ fs = [] ∧ ρ' = DS K a p1 p2 (stQ st d l o v).2 (dDd (.pas d l o v)) .un) rfl rfl sc__law_done.nd ⟨rfl, by decide, .inl Y.g_NotNow⟩ ⟨rfl, by decide, .inl Y.x_GrainError.mg⟩ (L2N.takes_of rfl rfl rfl rfl) (fun W pn xe tk po => bd_one (sd_if (k := false) (td_cast (k := decide ((("pass" : Str)) = ("lend" : Str))) (by decide +kernel) (td_eqS (pd_ixT (i := 0) rfl (pd_var (x := (.tuple [.str "pass", dAs d, dAs l, dAs o, dV v])) 1 rfl) pd_int) pd_str)) (fun h => nomatch h) (fun _ => bd_one (sd_if (k := false) (td_cast (k := decide ((("pass" : Str)) = ("pay" : Str))) (by decide +kernel) (td_eqS (pd_ixT (i := 0) rfl (pd_var (x := (.tuple [.str "pass", dAs d, dAs l, dAs o, dV v])) 1 rfl) pd_int) pd_str)) (fun h => nomatch h) (fun _ => bd_one (sd_exprX (px_methG tk 0 0 (m_pass_on Y) hr .nil (pv_name 0) rfl rfl rfl (ag_d (pd_ixT (i := 1) rfl (pd_var (x := (.tuple [.str "pass", dAs d, dAs l, dAs o, dV v])) 1 rfl) pd_int) (ag_d (pd_ixT (i := 2) rfl (pd_var (x := (.tuple [.str "pass", dAs d, dAs l, dAs o, dV v])) 1 rfl) pd_int) (ag_d (pd_ixT (i := 3) rfl (pd_var (x := (.tuple [.str "pass", dAs d, dAs l, dAs o, dV v])) 1 rfl) pd_int) (ag_d (pd_ixT (i := 4) rfl (pd_var (x := (.tuple [.str "pass", dAs d, dAs l, dAs o, dV v])) 1 rfl) pd_int) ag_nil)))) (hs := [0, 3, 4]) (bs := [some a, some p1, some p2]) (cs := LC K p1 p2 st) (cs' := LC K p1 p2 (stQ st d l o v).2) (cls := .ref (He.ga K "InvalidName")) (xs := []) ⟨rfl, rfl, rfl, trivial⟩ (by decide) (fun qs hq => by obtain ⟨p0, rfl⟩ := adr_LC hq; exact ⟨p0, p1, p2, st, d, l, o, v, rfl, rfl, rfl, ⟨hf, ho⟩, (by rw [ho9]; rfl), rfl⟩)) ⟨rfl, rfl, rfl⟩)))))) (fun a oe cls d pn hz hv => pre_suite 2 (C1 := He.ga K "NotNow") ⟨Y.e_NotNow.hg, Y.e_NotNow.hk, Y.e_NotNow.hs, Y.e_NotNow.hd⟩ Y.n_NotNow.sup.noF rfl rfl (by decide) (by decide) a oe cls d pn hz hv) (fun cls fs ρ' hM => ?_))
      obtain ⟨rfl, rfl, rfl⟩ := hM
      refine .inr ⟨Y.m_InvalidName_NotNow, true, Y.m_InvalidName_GrainError, fun _ => ⟨rfl, fun a0 oe dx pn hz hv hd0 => ?_⟩, fun h => nomatch h⟩
      subst hd0
      refine bd_guard (k := false || !true) (td_w (wd_or (td_cast (k := decide (true = false)) (by decide) (td_eqT (m := 1) (f := PyData.bool) (u := true) (v := false) (by have h9 := G.Room.units65 hr; exact h9) eqd_bl (by decide) (pd_isX (vc := .ref (He.ga K "InvalidName")) 2 Y.e_InvalidName hz hv Y.k_InvalidName_InvalidName (fun u r => r) Y.z_isinstance rfl (pe_glob rfl Y.x_InvalidName.mg (v := .ref (He.ga K "InvalidName")) rfl)) (pd_isX (vc := .ref (He.ga K "InvalidNumber")) 2 Y.e_InvalidName hz hv Y.k_InvalidName_InvalidNumber (fun u r => r) Y.z_isinstance rfl (pe_glob rfl Y.x_InvalidNumber.mg (v := .ref (He.ga K "InvalidNumber")) rfl)))) (fun _ => wd_or1 (td_not (td_val (pd_isX (vc := .ty "ValueError") 2 Y.e_InvalidName hz hv Y.k_InvalidName_ValueError (fun u r => r) Y.z_isinstance rfl (pe_cls Y.z_ValueError rfl))))))) (fun h => nomatch h) (fun _ => ?_)
      refine bd_one (sd_ret (x := .str "name") (pd_if (k := true) (x := .str "name") (y := .str "number") (td_val (pd_isX (vc := .ref (He.ga K "InvalidName")) 2 Y.e_InvalidName hz hv Y.k_InvalidName_InvalidName (fun u r => r) Y.z_isinstance rfl (pe_glob rfl Y.x_InvalidName.mg (v := .ref (He.ga K "InvalidName")) rfl))) (fun _ => pd_str) (fun _ => pd_str)) ?_)
      exact ⟨rfl, rfl, rfl, rfl, trivial⟩
    | number =>
      refine bd_guard_end (sd_try_fr (C1 := He.ga K "NotNow") (c2 := .ref (He.ga K "GrainError")) 2 (fun cls fs ρ' => cls = .ref (He.ga K "InvalidNumber") ∧ fs = [] ∧ ρ' = DS K a p1 p2 (stQ st d l o v).2 (dDd (.pas d l o v)) .un) rfl rfl sc__law_done.nd ⟨rfl, by decide, .inl Y.g_NotNow⟩ ⟨rfl, by decide, .inl Y.x_GrainError.mg⟩ (L2N.takes_of rfl rfl rfl rfl) (fun W pn xe tk po => bd_one (sd_if (k := false) (td_cast (k := decide ((("pass" : Str)) = ("lend" : Str))) (by decide +kernel) (td_eqS (pd_ixT (i := 0) rfl (pd_var (x := (.tuple [.str "pass", dAs d, dAs l, dAs o, dV v])) 1 rfl) pd_int) pd_str)) (fun h => nomatch h) (fun _ => bd_one (sd_if (k := false) (td_cast (k := decide ((("pass" : Str)) = ("pay" : Str))) (by decide +kernel) (td_eqS (pd_ixT (i := 0) rfl (pd_var (x := (.tuple [.str "pass", dAs d, dAs l, dAs o, dV v])) 1 rfl) pd_int) pd_str)) (fun h => nomatch h) (fun _ => bd_one (sd_exprX (px_methG tk 0 0 (m_pass_on Y) hr .nil (pv_name 0) rfl rfl rfl (ag_d (pd_ixT (i := 1) rfl (pd_var (x := (.tuple [.str "pass", dAs d, dAs l, dAs o, dV v])) 1 rfl) pd_int) (ag_d (pd_ixT (i := 2) rfl (pd_var (x := (.tuple [.str "pass", dAs d, dAs l, dAs o, dV v])) 1 rfl) pd_int) (ag_d (pd_ixT (i := 3) rfl (pd_var (x := (.tuple [.str "pass", dAs d, dAs l, dAs o, dV v])) 1 rfl) pd_int) (ag_d (pd_ixT (i := 4) rfl (pd_var (x := (.tuple [.str "pass", dAs d, dAs l, dAs o, dV v])) 1 rfl) pd_int) ag_nil)))) (hs := [0, 3, 4]) (bs := [some a, some p1, some p2]) (cs := LC K p1 p2 st) (cs' := LC K p1 p2 (stQ st d l o v).2) (cls := .ref (He.ga K "InvalidNumber")) (xs := []) ⟨rfl, rfl, rfl, trivial⟩ (by decide) (fun qs hq => by obtain ⟨p0, rfl⟩ := adr_LC hq; exact ⟨p0, p1, p2, st, d, l, o, v, rfl, rfl, rfl, ⟨hf, ho⟩, (by rw [ho9]; rfl), rfl⟩)) ⟨rfl, rfl, rfl⟩)))))) (fun a oe cls d pn hz hv => pre_suite 2 (C1 := He.ga K "NotNow") ⟨Y.e_NotNow.hg, Y.e_NotNow.hk, Y.e_NotNow.hs, Y.e_NotNow.hd⟩ Y.n_NotNow.sup.noF rfl rfl (by decide) (by decide) a oe cls d pn hz hv) (fun cls fs ρ' hM => ?_))
      obtain ⟨rfl, rfl, rfl⟩ := hM
      refine .inr ⟨Y.m_InvalidNumber_NotNow, true, Y.m_InvalidNumber_GrainError, fun _ => ⟨rfl, fun a0 oe dx pn hz hv hd0 => ?_⟩, fun h => nomatch h⟩
      subst hd0
      refine bd_guard (k := false || !true) (td_w (wd_or (td_cast (k := decide (false = true)) (by decide) (td_eqT (m := 1) (f := PyData.bool) (u := false) (v := true) (by have h9 := G.Room.units65 hr; exact h9) eqd_bl (by decide) (pd_isX (vc := .ref (He.ga K "InvalidName")) 2 Y.e_InvalidNumber hz hv Y.k_InvalidNumber_InvalidName (fun u r => r) Y.z_isinstance rfl (pe_glob rfl Y.x_InvalidName.mg (v := .ref (He.ga K "InvalidName")) rfl)) (pd_isX (vc := .ref (He.ga K "InvalidNumber")) 2 Y.e_InvalidNumber hz hv Y.k_InvalidNumber_InvalidNumber (fun u r => r) Y.z_isinstance rfl (pe_glob rfl Y.x_InvalidNumber.mg (v := .ref (He.ga K "InvalidNumber")) rfl)))) (fun _ => wd_or1 (td_not (td_val (pd_isX (vc := .ty "ValueError") 2 Y.e_InvalidNumber hz hv Y.k_InvalidNumber_ValueError (fun u r => r) Y.z_isinstance rfl (pe_cls Y.z_ValueError rfl))))))) (fun h => nomatch h) (fun _ => ?_)
      refine bd_one (sd_ret (x := .str "number") (pd_if (k := false) (x := .str "name") (y := .str "number") (td_val (pd_isX (vc := .ref (He.ga K "InvalidName")) 2 Y.e_InvalidNumber hz hv Y.k_InvalidNumber_InvalidName (fun u r => r) Y.z_isinstance rfl (pe_glob rfl Y.x_InvalidName.mg (v := .ref (He.ga K "InvalidName")) rfl))) (fun _ => pd_str) (fun _ => pd_str)) ?_)
      exact ⟨rfl, rfl, rfl, rfl, trivial⟩
    | notnow =>
      refine bd_guard_end (sd_try_fr (C1 := He.ga K "NotNow") (c2 := .ref (He.ga K "GrainError")) 2 (fun cls fs ρ' => cls = .ref (He.ga K "NotNow") ∧ fs = [(("reason" : Str), PyData.str ("too much" : Str))] ∧ ρ' = DS K a p1 p2 (stQ st d l o v).2 (dDd (.pas d l o v)) .un) rfl rfl sc__law_done.nd ⟨rfl, by decide, .inl Y.g_NotNow⟩ ⟨rfl, by decide, .inl Y.x_GrainError.mg⟩ (L2N.takes_of rfl rfl rfl rfl) (fun W pn xe tk po => bd_one (sd_if (k := false) (td_cast (k := decide ((("pass" : Str)) = ("lend" : Str))) (by decide +kernel) (td_eqS (pd_ixT (i := 0) rfl (pd_var (x := (.tuple [.str "pass", dAs d, dAs l, dAs o, dV v])) 1 rfl) pd_int) pd_str)) (fun h => nomatch h) (fun _ => bd_one (sd_if (k := false) (td_cast (k := decide ((("pass" : Str)) = ("pay" : Str))) (by decide +kernel) (td_eqS (pd_ixT (i := 0) rfl (pd_var (x := (.tuple [.str "pass", dAs d, dAs l, dAs o, dV v])) 1 rfl) pd_int) pd_str)) (fun h => nomatch h) (fun _ => bd_one (sd_exprX (px_methG tk 0 0 (m_pass_on Y) hr .nil (pv_name 0) rfl rfl rfl (ag_d (pd_ixT (i := 1) rfl (pd_var (x := (.tuple [.str "pass", dAs d, dAs l, dAs o, dV v])) 1 rfl) pd_int) (ag_d (pd_ixT (i := 2) rfl (pd_var (x := (.tuple [.str "pass", dAs d, dAs l, dAs o, dV v])) 1 rfl) pd_int) (ag_d (pd_ixT (i := 3) rfl (pd_var (x := (.tuple [.str "pass", dAs d, dAs l, dAs o, dV v])) 1 rfl) pd_int) (ag_d (pd_ixT (i := 4) rfl (pd_var (x := (.tuple [.str "pass", dAs d, dAs l, dAs o, dV v])) 1 rfl) pd_int) ag_nil)))) (hs := [0, 3, 4]) (bs := [some a, some p1, some p2]) (cs := LC K p1 p2 st) (cs' := LC K p1 p2 (stQ st d l o v).2) (cls := .ref (He.ga K "NotNow")) (xs := [(("reason" : Str), PyData.str ("too much" : Str))]) ⟨rfl, rfl, rfl, trivial⟩ (by decide) (fun qs hq => by obtain ⟨p0, rfl⟩ := adr_LC hq; exact ⟨p0, p1, p2, st, d, l, o, v, rfl, rfl, rfl, ⟨hf, ho⟩, (by rw [ho9]; rfl), rfl⟩)) ⟨rfl, rfl, rfl⟩)))))) (fun a oe cls d pn hz hv => pre_suite 2 (C1 := He.ga K "NotNow") ⟨Y.e_NotNow.hg, Y.e_NotNow.hk, Y.e_NotNow.hs, Y.e_NotNow.hd⟩ Y.n_NotNow.sup.noF rfl rfl (by decide) (by decide) a oe cls d pn hz hv) (fun cls fs ρ' hM => ?_))
      obtain ⟨rfl, rfl, rfl⟩ := hM
      refine .inl ⟨Y.m_NotNow_NotNow, rfl, "too much", rfl, by decide +kernel, fun a0 => ?_⟩
      exact ⟨congrArg PyData.str (by decide +kernel), rfl, rfl, rfl, trivial⟩
end
end GP
namespace GP
open PySem PySem.Spec PyProof.Rows L2 G
theorem stL_a {s : St} {l d : As} {v : Option Int} (h : (!nmOk l.1 || !nmOk d.1) = true) : stL s l d v = (.name, s) := by
  unfold stL
  by_cases h1 : nmOk l.1 = true
  · rw [if_pos h1, if_neg (by intro h2; rw [h1, h2] at h; cases h)]
  · rw [if_neg h1]
theorem stL_b {s : St} {l d : As} {v : Option Int} (h0 : (!nmOk l.1 || !nmOk d.1) = false) (h : (decide (l = d) || !okV v) = true) : stL s l d v = (.number, s) := by
  have h1 : nmOk l.1 = true ∧ nmOk d.1 = true := by simpa using h0
  unfold stL
  rw [if_pos h1.1, if_pos h1.2]
  by_cases h2 : l = d
  · rw [if_pos h2]
  · rw [if_neg h2, if_neg (by intro h3; rw [h3, decide_eq_false h2] at h; cases h)]
theorem stL_c {s : St} {l d : As} {v : Option Int} (h0 : (!nmOk l.1 || !nmOk d.1) = false) (h : (decide (l = d) || !okV v) = false) : okV v = true ∧ stL s l d v = (.done, G.pv s.1 (d, l) (owd s.1 (d, l) + v.getD 0), s.2 ++ [.lend l d (v.getD 0)]) := by
  have h1 : nmOk l.1 = true ∧ nmOk d.1 = true := by simpa using h0
  have h2 : ¬ l = d ∧ okV v = true := by simpa using h
  refine ⟨h2.2, ?_⟩
  unfold stL
  rw [if_pos h1.1, if_pos h1.2, if_neg h2.1, if_pos h2.2]
theorem wrong_is (i : Int) : (false || (decide (i < 1) || decide (1000000 < i))) = !okV (some i) := by
  show _ = !(decide ((1 : Int) ≤ i) && decide (i ≤ 1000000))
  rw [Bool.eq_iff_iff]
  simp only [Bool.false_or, Bool.or_eq_true, decide_eq_true_eq, Bool.not_eq_true', Bool.and_eq_false_iff, decide_eq_false_iff_not]
  omega
section
variable {P : Program} {w : World} {K : PySem.W.Frag} {mg : Str → Option Value} {base : Heap}
def S_due (K : PySem.W.Frag) (ar : List Ar) (qs : List Addr) (cs : List Ct) (r : Res) (cs' : List Ct) : Prop := ∃ (q : Addr) (m : Tb) (lg : List Lg) (d : Dd), qs = [q] ∧ cs = [tF m] ∧ ar = [.o 0, .d (dDd d)] ∧ (m.length ≤ 1000 ∧ d.short) ∧ r = .ret (.str (ocT (step (m, lg) d).1)) ∧ cs' = [tF (step (m, lg) d).2.1]
abbrev US (q : Addr) (m : Tb) (r : PyData) (x y z u : Sl) : En := [.o (some q) (tF m), .d r, x, y, z, u]

theorem c__law_due (Y : Py P K mg) : Cal P w K mg base 3 "_law_due" (spG K (S_due K)) [] := by
  obtain ⟨fd, F⟩ := Y.d__law_due
  refine ⟨_, fd, _, [], fn_G [0] F sc__law_due (by decide) (fun ar qs cs r cs' h => by obtain ⟨_, _, _, _, rfl, rfl, rfl, _⟩ := h; exact ⟨rfl, rfl, rfl⟩) (gh_of (by decide +kernel)) (by decide) (fun cdv A outer s H E hr ar qs cs r cs' h => ?_), Y.g__law_due, F.kp, F.bindsN (ps := [("model" : Str), "row"]) fun _ _ _ _ _ _ us hl => match us, hl with | [_, _], _ => rfl, .nil⟩
  obtain ⟨q, m, lg, dd, rfl, rfl, rfl, ⟨hf, hsh⟩, rfl, rfl⟩ := h
  refine bd_env (ρ' := US q m (dDd dd) .un .un .un .un) rfl ?_
  cases dd with
  | lend l d v =>
    obtain ⟨hl, hd⟩ := hsh
    show BD _ _ _ _ (DofG [0] [q] [tF (stL (m, lg) l d v).2.1] (.ret (.str (ocT (stL (m, lg) l d v).1))))
    refine bd_seq (sd_set 2 (pd_ixT (i := 3) (x := dV v) rfl (pd_var (x := (.tuple [.str "lend", dAs l, dAs d, dV v])) 1 rfl) (pd_cast (y := .int 3) rfl (pd_sub (pd_lenT (xs := [.str "lend", dAs l, dAs d, dV v]) Y.z_len (pd_var 1 rfl)) pd_int))) rfl sc__law_due.nd) ?_
    refine bd_seq (ρ1 := US q m (dDd (.lend l d v)) (.d (dV v)) (.d (.bool (!okV v))) .un .un) ?_ ?_
    · cases v with
      | none => exact sd_set 3 (pd_or_t (pd_isiV (v := none) Y.z_isinstance (pe_cls Y.z_bool rfl) (pd_var 2 rfl))) rfl sc__law_due.nd
      | some i => exact sd_set 3 (pd_cast (congrArg PyData.bool (wrong_is i)) (pd_or (pd_isiV (v := some i) Y.z_isinstance (pe_cls Y.z_bool rfl) (pd_var 2 rfl)) (fun _ => pd_or (pd_lt (i := i) (pd_var 2 rfl) pd_int) (fun _ => pd_one (pd_gt (i := i) (pd_var 2 rfl) pd_int))))) rfl sc__law_due.nd
    refine bd_guard_end (sd_if (k := true) (td_cast (k := decide ((("lend" : Str)) = ("lend" : Str))) (by decide +kernel) (td_eqS (pd_ixT (i := 0) rfl (pd_var (x := (.tuple [.str "lend", dAs l, dAs d, dV v])) 1 rfl) pd_int) pd_str)) (fun _ => ?_) (fun h => nomatch h))
    refine bd_guard (k := !nmOk l.1 || !nmOk d.1) (td_w (wd_or (td_not (td_val (pd_call (c__law_good Y) hr .nil (ad_cons (pd_ixT (i := 1) rfl (pd_var (x := (.tuple [.str "lend", dAs l, dAs d, dV v])) 1 rfl) pd_int) ad_nil) ⟨l.1, rfl, by omega, rfl⟩))) (fun _ => wd_or1 (td_not (td_val (pd_call (c__law_good Y) hr .nil (ad_cons (pd_ixT (i := 2) rfl (pd_var (x := (.tuple [.str "lend", dAs l, dAs d, dV v])) 1 rfl) pd_int) ad_nil) ⟨d.1, rfl, by omega, rfl⟩)))))) (fun hk => ?_) (fun hk => ?_)
    · rw [stL_a hk]; exact bd_one (sd_ret pd_str ⟨rfl, rfl, trivial⟩)
    refine bd_guard (k := decide (l = d) || !okV v) (td_w (wd_or (td_eqT (m := 1) (f := dAs) (u := l) (v := d) (G.Room.units65 hr) eqd_as (by decide) (pd_ixT (i := 1) rfl (pd_var (x := (.tuple [.str "lend", dAs l, dAs d, dV v])) 1 rfl) pd_int) (pd_ixT (i := 2) rfl (pd_var (x := (.tuple [.str "lend", dAs l, dAs d, dV v])) 1 rfl) pd_int)) (fun _ => wd_or1 (td_val (pd_var 3 rfl))))) (fun hk2 => ?_) (fun hk2 => ?_)
    · rw [stL_b hk hk2]; exact bd_one (sd_ret pd_str ⟨rfl, rfl, trivial⟩)
    obtain ⟨hv, he⟩ := stL_c (s := (m, lg)) hk hk2
    rw [he]
    obtain ⟨i, rfl, hi1, hi2⟩ := okV_some hv
    refine bd_seq (sd_set 4 (x := kDs (kT2 kA kA (d, l))) (pd_tup (ad_cons (pd_ixT (i := 2) rfl (pd_var (x := (.tuple [.str "lend", dAs l, dAs d, dV (some i)])) 1 rfl) pd_int) (ad_cons (pd_ixT (i := 1) rfl (pd_var (x := (.tuple [.str "lend", dAs l, dAs d, dV (some i)])) 1 rfl) pd_int) ad_nil))) rfl sc__law_due.nd) ?_
    refine bd_seq (sd_fput 0 (G.Room.units65 hr) (pd_add (pd_cast (getD_map PyData.int _ _) (pd_fget2 0 (G.Room.units65 hr) (pv_name 0) rfl (pd_var 4 rfl) pd_int rfl (dk_t (kT2_inj kA_inj kA_inj) m (d, l)) (dk_t (kT2_inj kA_inj kA_inj) m (d, l)))) (pd_var (x := .int i) 2 rfl)) (pv_name 0) rfl (pd_var 4 rfl) rfl (dp_t (kT2_inj kA_inj kA_inj) m (d, l) (owd m (d, l) + i) (f := PyData.int) (by omega)) rfl) ?_
    exact bd_one (sd_ret pd_str ⟨rfl, rfl, trivial⟩)
  | pay d l v =>
    obtain ⟨hd, hl⟩ := hsh
    show BD _ _ _ _ (DofG [0] [q] [tF (stP (m, lg) d l v).2.1] (.ret (.str (ocT (stP (m, lg) d l v).1))))
    refine bd_seq (sd_set 2 (pd_ixT (i := 3) (x := dV v) rfl (pd_var (x := (.tuple [.str "pay", dAs d, dAs l, dV v])) 1 rfl) (pd_cast (y := .int 3) rfl (pd_sub (pd_lenT (xs := [.str "pay", dAs d, dAs l, dV v]) Y.z_len (pd_var 1 rfl)) pd_int))) rfl sc__law_due.nd) ?_
    refine bd_seq (ρ1 := US q m (dDd (.pay d l v)) (.d (dV v)) (.d (.bool (!okV v))) .un .un) ?_ ?_
    · cases v with
      | none => exact sd_set 3 (pd_or_t (pd_isiV (v := none) Y.z_isinstance (pe_cls Y.z_bool rfl) (pd_var 2 rfl))) rfl sc__law_due.nd
      | some i => exact sd_set 3 (pd_cast (congrArg PyData.bool (wrong_is i)) (pd_or (pd_isiV (v := some i) Y.z_isinstance (pe_cls Y.z_bool rfl) (pd_var 2 rfl)) (fun _ => pd_or (pd_lt (i := i) (pd_var 2 rfl) pd_int) (fun _ => pd_one (pd_gt (i := i) (pd_var 2 rfl) pd_int))))) rfl sc__law_due.nd
    refine bd_guard (k := false) (td_cast (k := decide ((("pay" : Str)) = ("lend" : Str))) (by decide +kernel) (td_eqS (pd_ixT (i := 0) rfl (pd_var (x := (.tuple [.str "pay", dAs d, dAs l, dV v])) 1 rfl) pd_int) pd_str)) (fun h => nomatch h) (fun _ => ?_)
    unfold stP
    refine bd_guard (k := false) (td_w (wd_and_f (td_cast (k := decide ((("pay" : Str)) = ("pass" : Str))) (by decide +kernel) (td_eqS (pd_ixT (i := 0) rfl (pd_var (x := (.tuple [.str "pay", dAs d, dAs l, dV v])) 1 rfl) pd_int) pd_str)))) (fun h => nomatch h) (fun _ => ?_)
    by_cases h4 : okV v = true
    case neg =>
      rw [if_neg h4]
      refine bd_guard (k := !okV v) (td_val (pd_var 3 rfl)) (fun _ => ?_) (fun h => ?_)
      · exact bd_one (sd_ret pd_str ⟨rfl, rfl, trivial⟩)
      · simp [h4] at h
    rw [if_pos h4]
    refine bd_guard (k := !okV v) (td_val (pd_var 3 rfl)) (fun h => ?_) (fun _ => ?_)
    · simp [h4] at h
    obtain ⟨i, rfl, hi1, hi2⟩ := okV_some h4
    refine bd_seq (sd_set 4 (x := kDs (kT2 kA kA (d, l))) (pd_tup (ad_cons (pd_ixT (i := 1) rfl (pd_var (x := (.tuple [.str "pay", dAs d, dAs l, dV (some i)])) 1 rfl) pd_int) (ad_cons (pd_ixT (i := 2) rfl (pd_var (x := (.tuple [.str "pay", dAs d, dAs l, dV (some i)])) 1 rfl) pd_int) ad_nil))) rfl sc__law_due.nd) ?_
    by_cases h5 : owd m (d, l) < i
    case pos =>
      rw [if_pos (show owd m (d, l) < (some i).getD 0 from h5)]
      refine bd_guard_end (sd_if (k := true) (td_cast (k := decide (owd m (d, l) < i)) (decide_eq_true h5) (td_lt (pd_cast (getD_map PyData.int _ _) (pd_fget2 0 (G.Room.units65 hr) (pv_name 0) rfl (pd_var 4 rfl) pd_int rfl (dk_t (kT2_inj kA_inj kA_inj) m (d, l)) (dk_t (kT2_inj kA_inj kA_inj) m (d, l)))) (pd_var (x := .int i) 2 rfl))) (fun _ => ?_) (fun h => nomatch h))
      exact bd_one (sd_ret pd_str ⟨rfl, rfl, trivial⟩)
    rw [if_neg (show ¬ owd m (d, l) < (some i).getD 0 from h5)]
    refine bd_guard (k := false) (td_cast (k := decide (owd m (d, l) < i)) (decide_eq_false h5) (td_lt (pd_cast (getD_map PyData.int _ _) (pd_fget2 0 (G.Room.units65 hr) (pv_name 0) rfl (pd_var 4 rfl) pd_int rfl (dk_t (kT2_inj kA_inj kA_inj) m (d, l)) (dk_t (kT2_inj kA_inj kA_inj) m (d, l)))) (pd_var (x := .int i) 2 rfl))) (fun h => nomatch h) (fun _ => ?_)
    have hg := gv_of_owd h5 hi1
    refine bd_seq (sd_fput 0 (G.Room.units65 hr) (pd_sub (pd_fget 0 (G.Room.units65 hr) (pv_name 0) rfl (pd_var 4 rfl) rfl (dk_ts (kT2_inj kA_inj kA_inj) hg)) (pd_var (x := .int i) 2 rfl)) (pv_name 0) rfl (pd_var 4 rfl) rfl (dp_t (kT2_inj kA_inj kA_inj) m (d, l) (owd m (d, l) - i) (f := PyData.int) (by omega)) rfl) ?_
    refine bd_guard (k := false) (td_w (wd_and_f (td_cast (k := decide ((("pay" : Str)) = ("pass" : Str))) (by decide +kernel) (td_eqS (pd_ixT (i := 0) rfl (pd_var (x := (.tuple [.str "pay", dAs d, dAs l, dV (some i)])) 1 rfl) pd_int) pd_str)))) (fun h => nomatch h) (fun _ => ?_)
    exact bd_one (sd_ret pd_str ⟨rfl, rfl, trivial⟩)
  | pas d l o v =>
    obtain ⟨hd, hl, ho⟩ := hsh
    show BD _ _ _ _ (DofG [0] [q] [tF (stQ (m, lg) d l o v).2.1] (.ret (.str (ocT (stQ (m, lg) d l o v).1))))
    refine bd_seq (sd_set 2 (pd_ixT (i := 4) (x := dV v) rfl (pd_var (x := (.tuple [.str "pass", dAs d, dAs l, dAs o, dV v])) 1 rfl) (pd_cast (y := .int 4) rfl (pd_sub (pd_lenT (xs := [.str "pass", dAs d, dAs l, dAs o, dV v]) Y.z_len (pd_var 1 rfl)) pd_int))) rfl sc__law_due.nd) ?_
    refine bd_seq (ρ1 := US q m (dDd (.pas d l o v)) (.d (dV v)) (.d (.bool (!okV v))) .un .un) ?_ ?_
    · cases v with
      | none => exact sd_set 3 (pd_or_t (pd_isiV (v := none) Y.z_isinstance (pe_cls Y.z_bool rfl) (pd_var 2 rfl))) rfl sc__law_due.nd
      | some i => exact sd_set 3 (pd_cast (congrArg PyData.bool (wrong_is i)) (pd_or (pd_isiV (v := some i) Y.z_isinstance (pe_cls Y.z_bool rfl) (pd_var 2 rfl)) (fun _ => pd_or (pd_lt (i := i) (pd_var 2 rfl) pd_int) (fun _ => pd_one (pd_gt (i := i) (pd_var 2 rfl) pd_int))))) rfl sc__law_due.nd
    refine bd_guard (k := false) (td_cast (k := decide ((("pass" : Str)) = ("lend" : Str))) (by decide +kernel) (td_eqS (pd_ixT (i := 0) rfl (pd_var (x := (.tuple [.str "pass", dAs d, dAs l, dAs o, dV v])) 1 rfl) pd_int) pd_str)) (fun h => nomatch h) (fun _ => ?_)
    unfold stQ
    by_cases h1 : nmOk o.1 = true
    case neg =>
      rw [if_neg h1]
      refine bd_guard (k := true && !nmOk o.1) (td_w (wd_and (td_cast (k := decide ((("pass" : Str)) = ("pass" : Str))) (by decide +kernel) (td_eqS (pd_ixT (i := 0) rfl (pd_var (x := (.tuple [.str "pass", dAs d, dAs l, dAs o, dV v])) 1 rfl) pd_int) pd_str)) (fun _ => wd_and1 (td_not (td_val (pd_call (c__law_good Y) hr .nil (ad_cons (pd_ixT (i := 3) rfl (pd_var (x := (.tuple [.str "pass", dAs d, dAs l, dAs o, dV v])) 1 rfl) pd_int) ad_nil) ⟨o.1, rfl, by omega, rfl⟩)))))) (fun _ => ?_) (fun h => ?_)
      · exact bd_one (sd_ret pd_str ⟨rfl, rfl, trivial⟩)
      · simp [h1] at h
    rw [if_pos h1]
    refine bd_guard (k := true && !nmOk o.1) (td_w (wd_and (td_cast (k := decide ((("pass" : Str)) = ("pass" : Str))) (by decide +kernel) (td_eqS (pd_ixT (i := 0) rfl (pd_var (x := (.tuple [.str "pass", dAs d, dAs l, dAs o, dV v])) 1 rfl) pd_int) pd_str)) (fun _ => wd_and1 (td_not (td_val (pd_call (c__law_good Y) hr .nil (ad_cons (pd_ixT (i := 3) rfl (pd_var (x := (.tuple [.str "pass", dAs d, dAs l, dAs o, dV v])) 1 rfl) pd_int) ad_nil) ⟨o.1, rfl, by omega, rfl⟩)))))) (fun h => ?_) (fun _ => ?_)
    · simp [h1] at h
    by_cases h4 : okV v = true
    case neg =>
      rw [if_neg h4]
      refine bd_guard (k := !okV v) (td_val (pd_var 3 rfl)) (fun _ => ?_) (fun h => ?_)
      · exact bd_one (sd_ret pd_str ⟨rfl, rfl, trivial⟩)
      · simp [h4] at h
    rw [if_pos h4]
    refine bd_guard (k := !okV v) (td_val (pd_var 3 rfl)) (fun h => ?_) (fun _ => ?_)
    · simp [h4] at h
    obtain ⟨i, rfl, hi1, hi2⟩ := okV_some h4
    refine bd_seq (sd_set 4 (x := kDs (kT2 kA kA (d, l))) (pd_tup (ad_cons (pd_ixT (i := 1) rfl (pd_var (x := (.tuple [.str "pass", dAs d, dAs l, dAs o, dV (some i)])) 1 rfl) pd_int) (ad_cons (pd_ixT (i := 2) rfl (pd_var (x := (.tuple [.str "pass", dAs d, dAs l, dAs o, dV (some i)])) 1 rfl) pd_int) ad_nil))) rfl sc__law_due.nd) ?_
    by_cases h5 : owd m (d, l) < i
    case pos =>
      rw [if_pos (show owd m (d, l) < (some i).getD 0 from h5)]
      refine bd_guard_end (sd_if (k := true) (td_cast (k := decide (owd m (d, l) < i)) (decide_eq_true h5) (td_lt (pd_cast (getD_map PyData.int _ _) (pd_fget2 0 (G.Room.units65 hr) (pv_name 0) rfl (pd_var 4 rfl) pd_int rfl (dk_t (kT2_inj kA_inj kA_inj) m (d, l)) (dk_t (kT2_inj kA_inj kA_inj) m (d, l)))) (pd_var (x := .int i) 2 rfl))) (fun _ => ?_) (fun h => nomatch h))
      exact bd_one (sd_ret pd_str ⟨rfl, rfl, trivial⟩)
    rw [if_neg (show ¬ owd m (d, l) < (some i).getD 0 from h5)]
    refine bd_guard (k := false) (td_cast (k := decide (owd m (d, l) < i)) (decide_eq_false h5) (td_lt (pd_cast (getD_map PyData.int _ _) (pd_fget2 0 (G.Room.units65 hr) (pv_name 0) rfl (pd_var 4 rfl) pd_int rfl (dk_t (kT2_inj kA_inj kA_inj) m (d, l)) (dk_t (kT2_inj kA_inj kA_inj) m (d, l)))) (pd_var (x := .int i) 2 rfl))) (fun h => nomatch h) (fun _ => ?_)
    have hg := gv_of_owd h5 hi1
    refine bd_seq (sd_fput 0 (G.Room.units65 hr) (pd_sub (pd_fget 0 (G.Room.units65 hr) (pv_name 0) rfl (pd_var 4 rfl) rfl (dk_ts (kT2_inj kA_inj kA_inj) hg)) (pd_var (x := .int i) 2 rfl)) (pv_name 0) rfl (pd_var 4 rfl) rfl (dp_t (kT2_inj kA_inj kA_inj) m (d, l) (owd m (d, l) - i) (f := PyData.int) (by omega)) rfl) ?_
    have hm := pv_le m (d, l) (owd m (d, l) - i)
    refine bd_env (ρ' := US q (G.pv m (d, l) (owd m (d, l) - i)) (dDd (.pas d l o (some i))) (.d (.int i)) (.d (.bool (!okV (some i)))) (.d (kDs (kT2 kA kA (d, l)))) .un) rfl ?_
    by_cases h6 : o = d
    case pos =>
      refine bd_guard (k := true && !decide (o = d)) (td_w (wd_and (td_cast (k := decide ((("pass" : Str)) = ("pass" : Str))) (by decide +kernel) (td_eqS (pd_ixT (i := 0) rfl (pd_var (x := (.tuple [.str "pass", dAs d, dAs l, dAs o, dV (some i)])) 1 rfl) pd_int) pd_str)) (fun _ => wd_and1 (td_neT (m := 1) (f := dAs) (u := o) (v := d) (G.Room.units65 hr) eqd_as (by decide) (pd_ixT (i := 3) rfl (pd_var (x := (.tuple [.str "pass", dAs d, dAs l, dAs o, dV (some i)])) 1 rfl) pd_int) (pd_ixT (i := 1) rfl (pd_var (x := (.tuple [.str "pass", dAs d, dAs l, dAs o, dV (some i)])) 1 rfl) pd_int))))) (fun h => ?_) (fun _ => ?_)
      · simp [h6] at h
      · exact bd_one (sd_ret pd_str ⟨rfl, by show _ = some (Sl.o (some q) (tF (tbQ m d l o i))); unfold tbQ; rw [if_pos h6]; rfl, trivial⟩)
    refine bd_seq (ρ1 := US q (tbQ m d l o i) (dDd (.pas d l o (some i))) (.d (.int i)) (.d (.bool (!okV (some i)))) (.d (kDs (kT2 kA kA (d, l)))) (.d (kDs (kT2 kA kA (d, o))))) (sd_if (k := true && !decide (o = d)) (td_w (wd_and (td_cast (k := decide ((("pass" : Str)) = ("pass" : Str))) (by decide +kernel) (td_eqS (pd_ixT (i := 0) rfl (pd_var (x := (.tuple [.str "pass", dAs d, dAs l, dAs o, dV (some i)])) 1 rfl) pd_int) pd_str)) (fun _ => wd_and1 (td_neT (m := 1) (f := dAs) (u := o) (v := d) (G.Room.units65 hr) eqd_as (by decide) (pd_ixT (i := 3) rfl (pd_var (x := (.tuple [.str "pass", dAs d, dAs l, dAs o, dV (some i)])) 1 rfl) pd_int) (pd_ixT (i := 1) rfl (pd_var (x := (.tuple [.str "pass", dAs d, dAs l, dAs o, dV (some i)])) 1 rfl) pd_int))))) (fun _ => ?_) (fun h => ?_)) ?_
    · refine bd_seq (sd_set 5 (x := kDs (kT2 kA kA (d, o))) (pd_tup (ad_cons (pd_ixT (i := 1) rfl (pd_var (x := (.tuple [.str "pass", dAs d, dAs l, dAs o, dV (some i)])) 1 rfl) pd_int) (ad_cons (pd_ixT (i := 3) rfl (pd_var (x := (.tuple [.str "pass", dAs d, dAs l, dAs o, dV (some i)])) 1 rfl) pd_int) ad_nil))) rfl sc__law_due.nd) ?_
      unfold tbQ
      rw [if_neg h6]
      exact bd_one (sd_fput 0 (G.Room.units65 hr) (pd_add (pd_cast (getD_map PyData.int _ _) (pd_fget2 0 (G.Room.units65 hr) (pv_name 0) rfl (pd_var 5 rfl) pd_int rfl (dk_t (kT2_inj kA_inj kA_inj) (G.pv m (d, l) (owd m (d, l) - i)) (d, o)) (dk_t (kT2_inj kA_inj kA_inj) (G.pv m (d, l) (owd m (d, l) - i)) (d, o)))) (pd_var (x := .int i) 2 rfl)) (pv_name 0) rfl (pd_var 5 rfl) rfl (dp_t (kT2_inj kA_inj kA_inj) (G.pv m (d, l) (owd m (d, l) - i)) (d, o) (owd (G.pv m (d, l) (owd m (d, l) - i)) (d, o) + i) (f := PyData.int) (by omega)) rfl)
    · simp [h6] at h
    exact bd_one (sd_ret pd_str ⟨rfl, rfl, trivial⟩)
end
end GP
/-! P63b: what was lent is what is owed, was paid, and was passed on to the one who owed it. -/
namespace GP
open PySem PySem.Spec PyProof.Rows L2 G
def isLend : Lg → Bool
  | .lend _ _ _ => true
  | _ => false
def isPay : Lg → Bool
  | .pay _ _ _ => true
  | _ => false
def isSelf : Lg → Bool
  | .pas d _ o _ => decide (o = d)
  | _ => false
def amt : Lg → Int
  | .lend _ _ i => i
  | .pay _ _ i => i
  | .pas _ _ _ i => i
def smL (k : Lg → Bool) (lg : List Lg) : Int := ((lg.filter k).map amt).sum
theorem smL_app (k : Lg → Bool) (lg : List Lg) (g : Lg) : smL k (lg ++ [g]) = smL k lg + (if k g = true then amt g else 0) := by
  unfold smL
  rw [List.filter_append, List.map_append, List.sum_append]
  by_cases h : k g = true
  · rw [if_pos h, List.filter_cons_of_pos h]; simp
  · rw [if_neg h, List.filter_cons_of_neg h]; simp
def vsum (m : Tb) : Int := (m.map (·.2)).sum
theorem rv_vsum_out {m : Tb} {k : As × As} {v : Int} (h : k ∉ m.map (·.1)) : G.rv m k v = m := rv_out h
theorem vsum_pv : ∀ {m : Tb} {k : As × As} {v : Int}, (m.map (·.1)).Nodup → vsum (G.pv m k v) = vsum m - owd m k + v
  | [], k, v, _ => by show vsum [(k, v)] = _; simp [vsum, owd, gv]
  | p :: r, k, v, nd => by
    rw [List.map_cons, List.nodup_cons] at nd
    show vsum (if p.1 = k then (k, v) :: G.rv r k v else p :: G.pv r k v) = (p.2 + vsum r) - (if p.1 = k then some p.2 else gv r k).getD 0 + v
    by_cases q : p.1 = k
    · rw [if_pos q, if_pos q, rv_out (by rw [← q]; exact nd.1)]
      show v + vsum r = _
      simp only [Option.getD_some]
      omega
    · rw [if_neg q, if_neg q]
      have ih := vsum_pv (m := r) (k := k) (v := v) nd.2
      show p.2 + vsum (G.pv r k v) = _
      rw [ih]
      show p.2 + (vsum r - (gv r k).getD 0 + v) = _
      omega
theorem pv_nn {m : Tb} {k : As × As} {v : Int} (h : ∀ p ∈ m, (0 : Int) ≤ p.2) (hv : 0 ≤ v) : ∀ p ∈ G.pv m k v, (0 : Int) ≤ p.2 := by
  induction m with
  | nil =>
    intro p hp
    have : p = (k, v) := List.mem_singleton.mp hp
    rw [this]; exact hv
  | cons z r ih =>
    intro p hp
    have hp2 : p ∈ (if z.1 = k then (k, v) :: G.rv r k v else z :: G.pv r k v) := hp
    by_cases q : z.1 = k
    · rw [if_pos q] at hp2
      rcases List.mem_cons.mp hp2 with e | e
      · rw [e]; exact hv
      · unfold G.rv at e
        obtain ⟨y, hy, rfl⟩ := List.mem_map.mp e
        by_cases w : y.1 = k
        · rw [if_pos w]; exact hv
        · rw [if_neg w]; exact h y (List.mem_cons_of_mem _ hy)
    · rw [if_neg q] at hp2
      rcases List.mem_cons.mp hp2 with e | e
      · rw [e]; exact h z (List.mem_cons_self ..)
      · exact ih (fun y hy => h y (List.mem_cons_of_mem _ hy)) p e
theorem owd_nn {m : Tb} (h : ∀ p ∈ m, (0 : Int) ≤ p.2) (k : As × As) : 0 ≤ owd m k := by
  unfold owd
  cases q : gv m k with
  | none => exact Int.le_refl 0
  | some v => exact h _ (gv_mem q)
/-- all debts above nothing add up -/
theorem rows_sum : ∀ {m : Tb}, (m.map (·.1)).Nodup → (∀ p ∈ m, (0 : Int) ≤ p.2) → ((rowsT m).map (·.2.2)).sum = vsum m := by
  have key : ∀ (ks : List (As × As)) (f : As × As → Int), (∀ k ∈ ks, 0 ≤ f k) → (((ks.filter fun k => decide (0 < f k)).map fun k => (k.1, k.2, f k)).map fun r : As × As × Int => r.2.2).sum = (ks.map f).sum := by
    intro ks f
    induction ks with
    | nil => intro _; rfl
    | cons k ks ih =>
      intro h
      have ih' := ih fun z hz => h z (List.mem_cons_of_mem _ hz)
      by_cases q : 0 < f k
      · rw [List.filter_cons_of_pos (p := fun k => decide (0 < f k)) (decide_eq_true q)]
        exact congrArg (f k + ·) ih'
      · rw [List.filter_cons_of_neg (p := fun k => decide (0 < f k)) (by simpa using q)]
        have := h k (List.mem_cons_self ..)
        rw [ih']
        show (ks.map f).sum = f k + (ks.map f).sum
        omega
  intro m nd nn
  unfold rowsT
  rw [key (m.map (·.1)) (owd m) (fun k _ => owd_nn nn k), List.map_map]
  unfold vsum
  refine congrArg List.sum (List.map_congr_left fun p hp => ?_)
  show owd m p.1 = p.2
  unfold owd
  rw [gv_nd nd (show (p.1, p.2) ∈ m from hp)]
  rfl
structure Adds (s : St) : Prop where
  nd : (s.1.map (·.1)).Nodup
  nn : ∀ p ∈ s.1, (0 : Int) ≤ p.2
  sm : smL isLend s.2 = smL isPay s.2 + smL isSelf s.2 + vsum s.1
theorem adds0 : Adds ([], []) := ⟨List.nodup_nil, fun p hp => (by cases hp), rfl⟩
theorem adds_step {s : St} (h : Adds s) (d : Dd) : Adds (step s d).2 := by
  cases d with
  | lend l d v =>
    show Adds (stL s l d v).2
    unfold stL
    split
    · split
      · split
        · exact h
        · split
          · rename_i hv
            obtain ⟨i, rfl, h1, h2⟩ := okV_some hv
            have ho := owd_nn h.nn (d, l)
            refine ⟨pv_nd h.nd _ _, pv_nn h.nn (by show 0 ≤ owd s.1 (d, l) + i; omega), ?_⟩
            show smL isLend (s.2 ++ [_]) = smL isPay (s.2 ++ [_]) + smL isSelf (s.2 ++ [_]) + vsum (G.pv s.1 (d, l) (owd s.1 (d, l) + i))
            rw [smL_app, smL_app, smL_app, vsum_pv h.nd, h.sm]
            show _ + i = _ + 0 + (_ + 0) + _
            omega
          · exact h
      · exact h
    · exact h
  | pay d l v =>
    show Adds (stP s d l v).2
    unfold stP
    split
    · split
      · exact h
      · rename_i hv hw
        obtain ⟨i, rfl, h1, h2⟩ := okV_some hv
        have hw2 : ¬ owd s.1 (d, l) < i := hw
        refine ⟨pv_nd h.nd _ _, pv_nn h.nn (by show 0 ≤ owd s.1 (d, l) - i; omega), ?_⟩
        show smL isLend (s.2 ++ [_]) = smL isPay (s.2 ++ [_]) + smL isSelf (s.2 ++ [_]) + vsum (G.pv s.1 (d, l) (owd s.1 (d, l) - i))
        rw [smL_app, smL_app, smL_app, vsum_pv h.nd, h.sm]
        show _ + 0 = _ + i + (_ + 0) + _
        omega
    · exact h
  | pas d l o v =>
    show Adds (stQ s d l o v).2
    unfold stQ
    split
    · split
      · split
        · exact h
        · rename_i hv hw
          obtain ⟨i, rfl, h1, h2⟩ := okV_some hv
          have hw2 : ¬ owd s.1 (d, l) < i := hw
          have n1 : ((G.pv s.1 (d, l) (owd s.1 (d, l) - i)).map (·.1)).Nodup := pv_nd h.nd _ _
          have n2 := pv_nn (k := (d, l)) h.nn (show (0 : Int) ≤ owd s.1 (d, l) - i by omega)
          show Adds (tbQ s.1 d l o i, s.2 ++ [.pas d l o i])
          unfold tbQ
          by_cases e : o = d
          · rw [if_pos e]
            refine ⟨n1, n2, ?_⟩
            show smL isLend (s.2 ++ [_]) = smL isPay (s.2 ++ [_]) + smL isSelf (s.2 ++ [_]) + vsum (G.pv s.1 (d, l) (owd s.1 (d, l) - i))
            rw [smL_app, smL_app, smL_app, vsum_pv h.nd, h.sm, if_pos (show isSelf (.pas d l o i) = true from decide_eq_true e)]
            show _ + 0 = _ + 0 + (_ + i) + _
            omega
          · rw [if_neg e]
            have ho := owd_nn n2 (d, o)
            refine ⟨pv_nd n1 _ _, pv_nn n2 (by omega), ?_⟩
            show smL isLend (s.2 ++ [_]) = smL isPay (s.2 ++ [_]) + smL isSelf (s.2 ++ [_]) + vsum (G.pv (G.pv s.1 (d, l) (owd s.1 (d, l) - i)) (d, o) (owd (G.pv s.1 (d, l) (owd s.1 (d, l) - i)) (d, o) + i))
            rw [smL_app, smL_app, smL_app, vsum_pv n1, vsum_pv h.nd, h.sm, if_neg (show ¬ isSelf (.pas d l o i) = true by show ¬ decide (o = d) = true; simpa using e)]
            show _ + 0 = _ + 0 + (_ + 0) + _
            omega
      · exact h
    · exact h
theorem srt_sum (m : Tb) : ((srtD dRw (rowsT m)).map (·.2.2)).sum = ((rowsT m).map (·.2.2)).sum := by
  unfold srtD
  have key : ∀ {a b : List Int}, a.Perm b → a.sum = b.sum := fun h => by
    induction h with
    | nil => rfl
    | cons x _ ih => exact congrArg (x + ·) ih
    | swap x y l => show y + (x + l.sum) = x + (y + l.sum); omega
    | trans _ _ h1 h2 => exact h1.trans h2
  exact key ((List.mergeSort_perm _ _).map _)
end GP

namespace GP
open PySem PySem.Spec PyProof.Rows L2 G
abbrev nmA (n : Nm) : As := ⟨n.1, nm_strOk n⟩
theorem nice_4 {a b c d : PyData} (h1 : Nice 0 a) (h2 : Nice 0 b) (h3 : Nice 0 c) (h4 : Nice 0 d) : Nice 1 (.tuple [a, b, c, d]) := .tup (by show (4 : Nat) < 100000; decide) fun z hz => by
  simp only [List.mem_cons, List.not_mem_nil, or_false] at hz
  rcases hz with rfl | rfl | rfl | rfl <;> assumption
theorem nice_5 {a b c d e : PyData} (h1 : Nice 0 a) (h2 : Nice 0 b) (h3 : Nice 0 c) (h4 : Nice 0 d) (h5 : Nice 0 e) : Nice 1 (.tuple [a, b, c, d, e]) := .tup (by show (5 : Nat) < 100000; decide) fun z hz => by
  simp only [List.mem_cons, List.not_mem_nil, or_false] at hz
  rcases hz with rfl | rfl | rfl | rfl | rfl <;> assumption
theorem nice_lg (g : Lg) : Nice 1 (dLg g) := by
  cases g with
  | lend l d i => exact nice_4 (.str _) (.str _) (.str _) (.int _)
  | pay l d i => exact nice_4 (.str _) (.str _) (.str _) (.int _)
  | pas l d o i => exact nice_5 (.str _) (.str _) (.str _) (.str _) (.int _)
theorem srtD_len {α : Type} (f : α → PyData) (ns : List α) : (srtD f ns).length = ns.length := by unfold srtD; exact List.length_mergeSort ..
theorem rowsT_len (m : Tb) : (rowsT m).length ≤ m.length := by
  unfold rowsT
  rw [List.length_map]
  exact Nat.le_trans (List.length_filter_le _ _) (by rw [List.length_map]; exact Nat.le_refl _)
/-- the row's first word -/
def lgT : Lg → Str
  | .lend _ _ _ => "lend"
  | .pay _ _ _ => "pay"
  | .pas _ _ _ _ => "pass"
section
variable {X : Cx} {a b : Expr} {ρ ρ1 : En} {p pos : Pos}
theorem lg_0 (g : Lg) (ha : PD X a ρ (dLg g) ρ1) (hb : PD X b ρ1 (.int 0) ρ1) (hs : PlainIx b := by intro _ _; rfl) : PD X (.Subscript a b pos) ρ (.str (lgT g)) ρ1 := by
  cases g with
  | lend l d i => exact pd_ixT (xs := [.str "lend", dAs l, dAs d, .int i]) rfl ha hb hs
  | pay l d i => exact pd_ixT (xs := [.str "pay", dAs l, dAs d, .int i]) rfl ha hb hs
  | pas l d o i => exact pd_ixT (xs := [.str "pass", dAs l, dAs d, dAs o, .int i]) rfl ha hb hs
theorem isLend_iff (g : Lg) : decide (lgT g = ("lend" : Str)) = isLend g := by
  cases g with
  | lend l d i => show decide ((("lend" : Str)) = ("lend" : Str)) = true; decide +kernel
  | pay l d i => show decide ((("pay" : Str)) = ("lend" : Str)) = false; decide +kernel
  | pas l d o i => show decide ((("pass" : Str)) = ("lend" : Str)) = false; decide +kernel
theorem isPay_iff (g : Lg) : decide (lgT g = ("pay" : Str)) = isPay g := by
  cases g with
  | lend l d i => show decide ((("lend" : Str)) = ("pay" : Str)) = false; decide +kernel
  | pay l d i => show decide ((("pay" : Str)) = ("pay" : Str)) = true; decide +kernel
  | pas l d o i => show decide ((("pass" : Str)) = ("pay" : Str)) = false; decide +kernel
theorem lg_3 (g : Lg) (h : isLend g = true ∨ isPay g = true) (ha : PD X a ρ (dLg g) ρ1) (hb : PD X b ρ1 (.int 3) ρ1) (hs : PlainIx b := by intro _ _; rfl) : PD X (.Subscript a b pos) ρ (.int (amt g)) ρ1 := by
  cases g with
  | lend l d i => exact pd_ixT (xs := [.str "lend", dAs l, dAs d, .int i]) rfl ha hb hs
  | pay l d i => exact pd_ixT (xs := [.str "pay", dAs l, dAs d, .int i]) rfl ha hb hs
  | pas l d o i => rcases h with h | h <;> cases h
theorem lg_4 (g : Lg) (h : isSelf g = true) (ha : PD X a ρ (dLg g) ρ1) (hb : PD X b ρ1 (.int 4) ρ1) (hs : PlainIx b := by intro _ _; rfl) : PD X (.Subscript a b pos) ρ (.int (amt g)) ρ1 := by
  cases g with
  | lend l d i => cases h
  | pay l d i => cases h
  | pas l d o i => exact pd_ixT (xs := [.str "pass", dAs l, dAs d, dAs o, .int i]) rfl ha hb hs
end
section
variable {P : Program} {w : World} {K : PySem.W.Frag} {mg : Str → Option Value} {base : Heap}
def S_told (K : PySem.W.Frag) (ar : List Ar) (qs : List Addr) (cs : List Ct) (r : Res) (cs' : List Ct) : Prop := ∃ (a p1 p2 q lq : Addr) (s : St) (ns : List Nm), qs = [a, p1, p2, q, lq] ∧ cs = LC K p1 p2 s ++ [tF s.1, .l (s.2.map dLg)] ∧ ar = [.o 0, .o 3, .o 4, .d (dL dNm ns)] ∧ (Few s ∧ Adds s ∧ ns.length ≤ 100) ∧ r = .ret (.bool true) ∧ cs' = cs
abbrev TS (K : PySem.W.Frag) (a p1 p2 q lq : Addr) (s : St) (ns : List Nm) (x4 x5 x6 x7 x8 x9 x10 : Sl) : En := [.o (some a) (.n (He.ga K "Ledger") (LF p1 p2)), .o (some q) (tF s.1), .o (some lq) (.l (s.2.map dLg)), .d (dL dNm ns), x4, x5, x6, x7, x8, x9, x10, .o (some p1) (.g p1 (tF s.1)), .o (some p2) (.g p2 (.l (s.2.map dLg)))]

theorem c__law_told_right (Y : Py P K mg) : Cal P w K mg base 4 "_law_told_right" (spG K (S_told K)) [] := by
  obtain ⟨fd, F⟩ := Y.d__law_told_right
  refine ⟨_, fd, _, [], fn_G [0, 11, 12, 1, 2] F sc__law_told_right (by decide) (fun ar qs cs r cs' h => by obtain ⟨_, _, _, _, _, _, _, rfl, rfl, rfl, _⟩ := h; exact ⟨rfl, rfl, rfl⟩) (gh_of (by decide +kernel)) (by decide) (fun cdv A outer s H E hr ar qs cs r cs' h => ?_), Y.g__law_told_right, F.kp, F.bindsN (ps := [("ledger" : Str), "model", "log", "names"]) fun _ _ _ _ _ _ us hl => match us, hl with | [_, _, _, _], _ => rfl, .nil⟩
  obtain ⟨a, p1, p2, q, lq, st, ns, rfl, rfl, rfl, ⟨hf, had, hns⟩, rfl, rfl⟩ := h
  have hf1 := hf.1
  have hf2 := hf.2
  have hrl : (srtD dRw (rowsT st.1)).length ≤ 1000 := by rw [srtD_len]; exact Nat.le_trans (rowsT_len _) hf1
  refine bd_env (ρ' := TS K a p1 p2 q lq st ns .un .un .un .un .un .un .un) rfl ?_
  refine bd_seq (ρ1 := TS K a p1 p2 q lq st ns (.d (dL dRw (srtD dRw (rowsT st.1)))) .un .un .un .un .un .un) (sd_set 4 (x := dL dRw (srtD dRw (rowsT st.1))) (ρ1 := TS K a p1 p2 q lq st ns .un .un .un .un .un .un .un) ?_ rfl sc__law_told_right.nd) ?_
  · refine pd_n ?_
    refine pn_lock (ρ2 := TS K a p1 p2 q lq st ns .un .un .un .un .un .un .un) 1 rfl .t (fun od u => ?_)
    have hm' : (cxOf (L2N.CX P w) P w K mg base n__law_told_right "_law_told_right" (defScope s__law_told_right) (He.ga K "_law_told_right") cdv A outer s H E).mg ("sorted" : Str) = none := Y.z_sorted
    refine pn_sortedT (f := dRw) (ns := rowsT st.1) (G.Room.units65 hr) (fun a => ⟨((eqd_T3 eqd_as eqd_as eqd_int).lay a).1, Nat.le_trans ((eqd_T3 eqd_as eqd_as eqd_int).lay a).2 (by decide)⟩) (fun _ _ => rfl) (sbl_T3 _) hm' ?_ srcN
    unfold rowsT
    refine pq_n (pn_env (ρ' := restE ((TS K a p1 p2 q lq st ns .un .un .un .un .un .un .un).set 1 (.o (some q) (lk od u (tF st.1)))) ((TS K a p1 p2 q lq st ns .un .un .un .un .un .un .un).set 1 (.o (some q) (lk od u (tF st.1)))) [5]) (pn_lc ?_ sc__law_told_right.nd) rfl)
    refine lcM (own := [(("pair" : Str), 5)]) (src := some 1) (ok := fun r : En => r[1]? = some (.o (some q) (.f od u (tF st.1)))) (st.1.map (·.1)) (dT2 dAs dAs) dRw (fun k => decide (0 < owd st.1 k)) (fun k => (k.1, k.2, owd st.1 k)) ?_ ?_ ?_ ?_ ?_ ?_
    · exact blkOk_by (own := [("pair", 5)]) (show blkC n__law_told_right (defScope s__law_told_right) _ _ = true by decide +kernel)
    · exact id_ft (f := PyData.int) (kt := kT2 kA kA) (m := st.1) 1 (fun _ => rfl) (pv_name 1) rfl .f
    · rw [List.length_map]; omega
    · intro j h; cases h; decide
    · rfl
    · exact (fun k ha => ⟨_, _, (fun Z hZ => by obtain ⟨s1, H1, C1, cl1, fp1, rfl⟩ := hZ; exact (gv_name 5 (by decide) sc__law_told_right.nd)), (fun Z hZ => by obtain ⟨s1, H1, C1, cl1, fp1, rfl⟩ := hZ; exact (tsd_one (td_gt (pd_fget 1 (G.Room.units65 hr) (pv_name 1) rfl (pd_var 5 rfl) rfl (dk_lts (kT2_inj kA_inj kA_inj) (gv_mem63 ha))) pd_int))), (fun Z hZ _ => by obtain ⟨s1, H1, C1, cl1, fp1, rfl⟩ := hZ; exact (pd_tup (ad_cons (pd_ixT (i := 0) rfl (pd_var (x := .tuple [dAs k.1, dAs k.2]) 5 rfl) pd_int) (ad_cons (pd_ixT (i := 1) rfl (pd_var (x := .tuple [dAs k.1, dAs k.2]) 5 rfl) pd_int) (ad_cons (pd_fget 1 (G.Room.units65 hr) (pv_name 1) rfl (pd_var 5 rfl) rfl (dk_lts (kT2_inj kA_inj kA_inj) (gv_mem63 ha))) ad_nil))))), (by repeat (first | exact Le.nil | apply Le.eq | apply Le.un)), (by repeat (first | exact Le.nil | apply Le.eq | apply Le.un))⟩)
  refine bd_guard (k := !true || !true) (td_w (wd_or (td_not (td_val (pd_call (c__law_same Y 2) hr .nil (ad_cons (pd_methG0 0 0 (m_debts Y) hr .nil (pv_name 0) rfl rfl rfl (hs := [0, 11, 12]) (bs := [some a, some p1, some p2]) (cs := LC K p1 p2 st) (cs' := LC K p1 p2 st) (y := dL dRw (srtD dRw (rowsT st.1))) ⟨rfl, rfl, rfl, trivial⟩ (by decide) (fun qs hq => by obtain ⟨p0, rfl⟩ := adr_LC hq; exact ⟨p0, p1, p2, st, rfl, rfl, rfl, hf, rfl, rfl⟩)) (ad_cons (pd_var 4 rfl) ad_nil)) ⟨_, rfl, .lst (by rw [List.length_map]; omega) (nice_all fun _ _ => nice_t3 (.str _) (.str _) (.int _)), rfl⟩))) (fun _ => wd_or1 (td_not (td_val (pd_callL (b := true) 2 (c__law_same Y 2) hr .nil (ag_d (pd_methG0 0 0 (m_log Y) hr .nil (pv_name 0) rfl rfl rfl (hs := [0, 11, 12]) (bs := [some a, some p1, some p2]) (cs := LC K p1 p2 st) (cs' := LC K p1 p2 st) (y := dL dLg st.2) ⟨rfl, rfl, rfl, trivial⟩ (by decide) (fun qs hq => by obtain ⟨p0, rfl⟩ := adr_LC hq; exact ⟨p0, p1, p2, st, rfl, rfl, rfl, rfl, rfl⟩)) (ag_o 0 2 (pv_name 2) rfl rfl ag_nil)) rfl .l ⟨_, rfl, .lst (by rw [List.length_map]; omega) (nice_all fun g _ => nice_lg g), rfl⟩)))))) (fun h => nomatch h) (fun _ => ?_)
  refine bd_env (ρ' := TS K a p1 p2 q lq st ns (.d (dL dRw (srtD dRw (rowsT st.1)))) .un .un .un .un .un .un) rfl ?_
  refine bd_cut (fun ρ : En => ∃ x y : Sl, ρ = TS K a p1 p2 q lq st ns (.d (dL dRw (srtD dRw (rowsT st.1)))) .un x y .un .un .un) (sd_forM ns dNm (fun (_ : Nat) (ρ : En) => ∃ x y : Sl, ρ = TS K a p1 p2 q lq st ns (.d (dL dRw (srtD dRw (rowsT st.1)))) .un x y .un .un .un) (passes_of rfl) rfl (id_listD (f := dNm) (ns := ns) (pd_var 3 rfl)) ⟨_, (by repeat (first | exact Le.nil | apply Le.eq | apply Le.un)), .un, .un, rfl⟩ (fun _ _ _ => trivial) (fun i one ρ ha hI => ?_) (fun ρ h => h)) ?_
  · obtain ⟨x, y, rfl⟩ := hI
    refine ⟨_, (gd_name 6 sc__law_told_right.nd), ?_⟩
    refine bd_env (ρ' := TS K a p1 p2 q lq st ns (.d (dL dRw (srtD dRw (rowsT st.1)))) .un (.d (dNm one)) y .un .un .un) rfl ?_
    refine bd_cut (fun ρ : En => ∃ y : Sl, ρ = TS K a p1 p2 q lq st ns (.d (dL dRw (srtD dRw (rowsT st.1)))) .un (.d (dNm one)) y .un .un .un) (sd_forM ns dNm (fun (_ : Nat) (ρ : En) => ∃ y : Sl, ρ = TS K a p1 p2 q lq st ns (.d (dL dRw (srtD dRw (rowsT st.1)))) .un (.d (dNm one)) y .un .un .un) (passes_of rfl) rfl (id_listD (f := dNm) (ns := ns) (pd_var 3 rfl)) ⟨_, Le.refl _, y, rfl⟩ (fun _ _ _ => trivial) (fun i oth ρ ha hI => ?_) (fun ρ h => h)) ?_
    · obtain ⟨y, rfl⟩ := hI
      refine ⟨_, (gd_name 7 sc__law_told_right.nd), ?_⟩
      refine bd_env (ρ' := TS K a p1 p2 q lq st ns (.d (dL dRw (srtD dRw (rowsT st.1)))) .un (.d (dNm one)) (.d (dNm oth)) .un .un .un) rfl ?_
      refine bd_guard (k := !true) (td_not (td_val (pd_call (c__law_same Y 0) hr .nil (ad_cons (pd_methG 0 0 (m_owed Y) hr .nil (pv_name 0) rfl rfl rfl (ag_d (pd_var (x := dAs (nmA one)) 6 rfl) (ag_d (pd_var (x := dAs (nmA oth)) 7 rfl) ag_nil)) (hs := [0, 11, 12]) (bs := [some a, some p1, some p2]) (cs := LC K p1 p2 st) (cs' := LC K p1 p2 st) (y := .int (owd st.1 (nmA one, nmA oth))) ⟨rfl, rfl, rfl, trivial⟩ (by decide) (fun qs hq => by obtain ⟨p0, rfl⟩ := adr_LC hq; exact ⟨p0, p1, p2, st, nmA one, nmA oth, rfl, rfl, rfl, rfl, rfl⟩)) (ad_cons (pd_cast (getD_map PyData.int _ _) (pd_fget2 1 (G.Room.units65 hr) (pv_name 1) rfl (pd_tup (ad_cons (pd_var (x := dAs (nmA one)) 6 rfl) (ad_cons (pd_var (x := dAs (nmA oth)) 7 rfl) ad_nil))) pd_int rfl (dk_t (kT2_inj kA_inj kA_inj) st.1 (nmA one, nmA oth)) (dk_t (kT2_inj kA_inj kA_inj) st.1 (nmA one, nmA oth)))) ad_nil)) ⟨_, rfl, .int _, rfl⟩))) (fun h => nomatch h) (fun _ => ?_)
      exact bd_nil ⟨_, (by repeat (first | exact Le.nil | apply Le.eq | apply Le.un)), _, rfl⟩
    · rintro ρ ⟨y, rfl⟩
      exact bd_nil ⟨_, (by repeat (first | exact Le.nil | apply Le.eq | apply Le.un)), _, _, rfl⟩
  rintro ρ ⟨x, y, rfl⟩
  refine bd_seq (sd_set 8 (x := .int (smL isLend st.2)) (pd_sumD (ns := (st.2.filter isLend).map amt) rfl Y.z_sum (pd_n (pn_lc (lcM (own := [(("row" : Str), 9)]) (src := some 2) (ok := fun r : En => SrcOk r (some 2) (st.2.map dLg)) st.2 dLg PyData.int isLend amt (blkOk_by (own := [("row", 9)]) (show blkC n__law_told_right (defScope s__law_told_right) _ _ = true by decide +kernel)) (id_list (pq_o 2 rfl) (srcO rfl)) (by omega) (by intro j h; cases h; decide) ⟨_, rfl⟩ (fun g ha => ⟨_, _, (fun Z hZ => by obtain ⟨s1, H1, C1, cl1, fp1, rfl⟩ := hZ; exact (gv_name 9 (by decide) sc__law_told_right.nd)), (fun Z hZ => by obtain ⟨s1, H1, C1, cl1, fp1, rfl⟩ := hZ; exact (tsd_one (td_cast (k := decide (lgT g = ("lend" : Str))) (isLend_iff g) (td_eqS (lg_0 g (pd_var (x := dLg g) 9 rfl) pd_int) pd_str)))), (fun Z hZ hk => by obtain ⟨s1, H1, C1, cl1, fp1, rfl⟩ := hZ; exact (lg_3 g (.inl hk) (pd_var (x := dLg g) 9 rfl) pd_int)), (by repeat (first | exact Le.nil | apply Le.eq | apply Le.un)), (by repeat (first | exact Le.nil | apply Le.eq | apply Le.un))⟩)) sc__law_told_right.nd))) rfl sc__law_told_right.nd) ?_
  refine bd_env (ρ' := TS K a p1 p2 q lq st ns (.d (dL dRw (srtD dRw (rowsT st.1)))) .un x y (.d (.int (smL isLend st.2))) .un .un) rfl ?_
  refine bd_seq (sd_set 10 (x := .int (smL isPay st.2 + smL isSelf st.2)) (pd_add (pd_sumD (ns := (st.2.filter isPay).map amt) rfl Y.z_sum (pd_n (pn_lc (lcM (own := [(("row" : Str), 9)]) (src := some 2) (ok := fun r : En => SrcOk r (some 2) (st.2.map dLg)) st.2 dLg PyData.int isPay amt (blkOk_by (own := [("row", 9)]) (show blkC n__law_told_right (defScope s__law_told_right) _ _ = true by decide +kernel)) (id_list (pq_o 2 rfl) (srcO rfl)) (by omega) (by intro j h; cases h; decide) ⟨_, rfl⟩ (fun g ha => ⟨_, _, (fun Z hZ => by obtain ⟨s1, H1, C1, cl1, fp1, rfl⟩ := hZ; exact (gv_name 9 (by decide) sc__law_told_right.nd)), (fun Z hZ => by obtain ⟨s1, H1, C1, cl1, fp1, rfl⟩ := hZ; exact (tsd_one (td_cast (k := decide (lgT g = ("pay" : Str))) (isPay_iff g) (td_eqS (lg_0 g (pd_var (x := dLg g) 9 rfl) pd_int) pd_str)))), (fun Z hZ hk => by obtain ⟨s1, H1, C1, cl1, fp1, rfl⟩ := hZ; exact (lg_3 g (.inr hk) (pd_var (x := dLg g) 9 rfl) pd_int)), (by repeat (first | exact Le.nil | apply Le.eq | apply Le.un)), (by repeat (first | exact Le.nil | apply Le.eq | apply Le.un))⟩)) sc__law_told_right.nd))) (pd_sumD (ns := (st.2.filter isSelf).map amt) rfl Y.z_sum (pd_n (pn_lc (lcM (own := [(("row" : Str), 9)]) (src := some 2) (ok := fun r : En => SrcOk r (some 2) (st.2.map dLg)) st.2 dLg PyData.int isSelf amt (blkOk_by (own := [("row", 9)]) (show blkC n__law_told_right (defScope s__law_told_right) _ _ = true by decide +kernel)) (id_list (pq_o 2 rfl) (srcO rfl)) (by omega) (by intro j h; cases h; decide) ⟨_, rfl⟩ (fun g ha => ⟨_, _, (fun Z hZ => by obtain ⟨s1, H1, C1, cl1, fp1, rfl⟩ := hZ; exact (gv_name 9 (by decide) sc__law_told_right.nd)), (fun Z hZ => by obtain ⟨s1, H1, C1, cl1, fp1, rfl⟩ := hZ; exact (tsd_one (by rcases g with ⟨l, d, i⟩ | ⟨d, l, i⟩ | ⟨d, l, o, i⟩; exact td_w (wd_and_f (td_cast (k := decide ((("lend" : Str)) = ("pass" : Str))) (by decide +kernel) (td_eqS (pd_ixT (i := 0) rfl (pd_var (x := (.tuple [.str "lend", dAs l, dAs d, .int i])) 9 rfl) pd_int) pd_str))); exact td_w (wd_and_f (td_cast (k := decide ((("pay" : Str)) = ("pass" : Str))) (by decide +kernel) (td_eqS (pd_ixT (i := 0) rfl (pd_var (x := (.tuple [.str "pay", dAs d, dAs l, .int i])) 9 rfl) pd_int) pd_str))); exact td_cast (k := true && decide (o = d)) rfl (td_w (wd_and (td_cast (k := decide ((("pass" : Str)) = ("pass" : Str))) (by decide +kernel) (td_eqS (pd_ixT (i := 0) rfl (pd_var (x := (.tuple [.str "pass", dAs d, dAs l, dAs o, .int i])) 9 rfl) pd_int) pd_str)) (fun _ => wd_and1 (td_eqT (m := 1) (f := dAs) (u := o) (v := d) (G.Room.units65 hr) eqd_as (by decide) (pd_ixT (i := 3) rfl (pd_var (x := (.tuple [.str "pass", dAs d, dAs l, dAs o, .int i])) 9 rfl) pd_int) (pd_ixT (i := 1) rfl (pd_var (x := (.tuple [.str "pass", dAs d, dAs l, dAs o, .int i])) 9 rfl) pd_int)))))))), (fun Z hZ hk => by obtain ⟨s1, H1, C1, cl1, fp1, rfl⟩ := hZ; exact (lg_4 g hk (pd_var (x := dLg g) 9 rfl) pd_int)), (by repeat (first | exact Le.nil | apply Le.eq | apply Le.un)), (by repeat (first | exact Le.nil | apply Le.eq | apply Le.un))⟩)) sc__law_told_right.nd)))) rfl sc__law_told_right.nd) ?_
  refine bd_env (ρ' := TS K a p1 p2 q lq st ns (.d (dL dRw (srtD dRw (rowsT st.1)))) .un x y (.d (.int (smL isLend st.2))) .un (.d (.int (smL isPay st.2 + smL isSelf st.2)))) rfl ?_
  have fin : smL isLend st.2 = smL isPay st.2 + smL isSelf st.2 + ((srtD dRw (rowsT st.1)).map (·.2.2)).sum := by rw [srt_sum, rows_sum had.nd had.nn]; exact had.sm
  refine bd_one (sd_ret (x := .bool true) (pd_cast (congrArg PyData.bool (decide_eq_true fin)) (pd_eqI (pd_var 8 rfl) (pd_add (pd_var (x := .int (smL isPay st.2 + smL isSelf st.2)) 10 rfl) (pd_sumD (ns := (srtD dRw (rowsT st.1)).map (·.2.2)) rfl Y.z_sum (pd_n (pn_lc (lcN (srtD dRw (rowsT st.1)) dRw PyData.int (fun r => r.2.2) (blkOk_by (own := [("row", 9)]) (show blkC n__law_told_right (defScope s__law_told_right) _ _ = true by decide +kernel)) (id_listD (f := dRw) (ns := srtD dRw (rowsT st.1)) (pd_var 4 rfl)) (by omega) (by intro _ h; cases h) (by trivial) (fun r ha => ⟨_, _, (fun Z hZ => by obtain ⟨s1, H1, C1, cl1, fp1, rfl⟩ := hZ; exact (gv_name 9 (by decide) sc__law_told_right.nd)), (fun Z hZ => by obtain ⟨s1, H1, C1, cl1, fp1, rfl⟩ := hZ; exact (pd_ixT (i := 2) rfl (pd_var (x := dRw r) 9 rfl) pd_int)), (by repeat (first | exact Le.nil | apply Le.eq | apply Le.un)), (by repeat (first | exact Le.nil | apply Le.eq | apply Le.un))⟩)) sc__law_told_right.nd)))))) ?_)
  exact ⟨rfl, rfl, rfl, rfl, rfl, rfl, trivial⟩
end
end GP
namespace GP
open PySem PySem.Spec PyProof.Rows L2 G
def qA : As := ⟨"Q", by decide +kernel⟩
abbrev WW (ns : List Nm) : List As := ns.map nmA ++ ns.map nmA ++ [qA]
theorem nm_list (ns : List Nm) : dL dNm ns = PyData.list ((ns.map nmA).map dAs) := by
  rw [List.map_map]
  rfl
theorem ww_short {ns : List Nm} {x : As} (h : x ∈ WW ns) : x.1.length ≤ 1000 := by
  have key : ∀ y ∈ ns.map nmA, y.1.length ≤ 1000 := fun y hy => by
    obtain ⟨n, _, rfl⟩ := List.mem_map.mp hy
    have := nm_len n
    show n.1.length ≤ 1000
    omega
  rcases List.mem_append.mp h with h | h
  · rcases List.mem_append.mp h with h | h
    · exact key x h
    · exact key x h
  · rw [List.mem_singleton.mp h]; decide +kernel
theorem ww_len (ns : List Nm) : (WW ns).length = 2 * ns.length + 1 := by simp; omega
theorem ocT_ne (o : Oc) : (!decide (ocT o = ocT o)) = false := by simp
theorem ocT_done (o : Oc) : decide (ocT o = ("done" : Str)) = decide (o = .done) := by
  cases o <;> (show decide ((_ : Str) = _) = _; decide +kernel)
theorem step_done {s : St} {d : Dd} (h : (step s d).1 = .done) : ∃ g, (step s d).2.2 = s.2 ++ [g] ∧ dLg g = dDd d := by
  cases d with
  | lend l d v =>
    change (stL s l d v).1 = .done at h
    show ∃ g, (stL s l d v).2.2 = s.2 ++ [g] ∧ _
    unfold stL at h ⊢
    split at h <;> rename_i q1
    · split at h <;> rename_i q2
      · split at h <;> rename_i q3
        · cases h
        · split at h <;> rename_i q4
          · rw [if_pos q1, if_pos q2, if_neg q3, if_pos q4]
            obtain ⟨i, rfl, _⟩ := okV_some q4
            exact ⟨_, rfl, rfl⟩
          · cases h
      · cases h
    · cases h
  | pay d l v =>
    change (stP s d l v).1 = .done at h
    show ∃ g, (stP s d l v).2.2 = s.2 ++ [g] ∧ _
    unfold stP at h ⊢
    split at h <;> rename_i q1
    · split at h <;> rename_i q2
      · cases h
      · rw [if_pos q1, if_neg q2]
        obtain ⟨i, rfl, _⟩ := okV_some q1
        exact ⟨_, rfl, rfl⟩
    · cases h
  | pas d l o v =>
    change (stQ s d l o v).1 = .done at h
    show ∃ g, (stQ s d l o v).2.2 = s.2 ++ [g] ∧ _
    unfold stQ at h ⊢
    split at h <;> rename_i q0
    · split at h <;> rename_i q1
      · split at h <;> rename_i q2
        · cases h
        · rw [if_pos q0, if_pos q1, if_neg q2]
          obtain ⟨i, rfl, _⟩ := okV_some q1
          exact ⟨_, rfl, rfl⟩
      · cases h
    · cases h
theorem step_not {s : St} {d : Dd} (h : ¬ (step s d).1 = .done) : (step s d).2 = s := by
  cases d with
  | lend l d v =>
    change ¬ (stL s l d v).1 = .done at h
    show (stL s l d v).2 = s
    unfold stL at h ⊢
    (repeat' split at h) <;> simp_all
  | pay d l v =>
    change ¬ (stP s d l v).1 = .done at h
    show (stP s d l v).2 = s
    unfold stP at h ⊢
    (repeat' split at h) <;> simp_all
  | pas d l o v =>
    change ¬ (stQ s d l o v).1 = .done at h
    show (stQ s d l o v).2 = s
    unfold stQ at h ⊢
    (repeat' split at h) <;> simp_all
section
variable {P : Program} {w : World} {K : PySem.W.Frag} {mg : Str → Option Value} {base : Heap}
abbrev ZS (K : PySem.W.Frag) (p1 p2 : Addr) (sc : List Int) (q : Pool) (ns : List Nm) (ls : St) (m : Tb) (lg : List Lg) (x6 x7 x8 x9 : Sl) : En := [.d (dL PyData.int sc), .o none (.l (pl q)), .d (dL dNm ns), .o none (.n (He.ga K "Ledger") (LF p1 p2)), .o none (tF m), .o none (.l (lg.map dLg)), x6, x7, x8, x9, .o none (.g p1 (tF ls.1)), .o none (.g p2 (.l (ls.2.map dLg)))]

theorem law_fn {fd : FuncData} (F : FunD K "law" "law" (defArgs s_law) (defBody s_law) (defScope s_law) [] [] (He.ga K "law") fd) (Y : Py P K mg) : FnOk P w K mg base (L2N.CX P w) 20 (He.ga K "law") fd ["script"] (spD K LawS) := by
  refine fn_DD F sc_law (fun ds r h => by obtain ⟨_, rfl, _⟩ := h; rfl) (by decide) (fun cdv A outer s H E hr ds r h => ?_)
  obtain ⟨sc, rfl, hl_, rfl⟩ := h
  refine bd_env (ρ' := [.d ((dL PyData.int) sc), .un, .un, .un, .un, .un, .un, .un, .un, .un, .un, .un]) rfl ?_
  refine bd_seq (sd_setN 1 (pn_call (c__law_pool Y) hr .nil (ad_cons (pd_var 0 rfl) ad_nil) ⟨sc, rfl, rfl⟩) rfl sc_law.nd) ?_
  generalize (⟨sc, 0, 0, 0, 0⟩ : Pool) = q0
  refine bd_env (ρ' := [.d ((dL PyData.int) sc), .o none (.l (pl q0)), .un, .un, .un, .un, .un, .un, .un, .un, .un, .un]) rfl ?_
  refine bd_cut (fun r => ∃ (ns : List Nm) (q : Pool), NmsOk 4 ns ∧ r = [.d ((dL PyData.int) sc), .o none (.l (pl q)), .d (dL dNm ns), .un, .un, .un, .un, .un, .un, .un, .un, .un]) (sd_setP 2 (pp_call (q := q0) 1 (c__law_names Y) hr .nil rfl (ad_cons pd_int ad_nil) rfl ⟨4, rfl, by omega⟩) (fun y r h => by obtain ⟨hh, q, rfl⟩ := h; obtain ⟨z, rfl, hy⟩ := hh _ rfl; exact ⟨z, q, hy, rfl⟩) sc_law.nd) ?_
  rintro r ⟨ns, q1, hn4, rfl⟩
  have hnl : ns.length = 4 := by have h9 := hn4.1; omega
  clear hn4
  refine bd_setI 3 [10, 11] (pi_make0 (m_init Y) hr ⟨rfl, rfl, rfl⟩) (fun qs hq => ?_) rfl (by decide) (fun g hg => gh_of (N := n_law) (sc := defScope s_law) (n := 1) (gs := [10, 11]) (by decide +kernel) g hg (by rcases List.mem_cons.mp hg with z | z; omega; rcases List.mem_cons.mp z with z | z; omega; cases z)) (fun qs hq => ?_) sc_law.nd
  · match qs, hq with
    | [_, _], _ => rfl
  obtain ⟨p1, p2, rfl⟩ : ∃ p1 p2, qs = [p1, p2] := by
    match qs, hq with
    | [a, b], _ => exact ⟨a, b, rfl⟩
  refine bd_env (ρ' := [.d ((dL PyData.int) sc), .o none (.l (pl q1)), .d (dL dNm ns), .o none (.n (He.ga K "Ledger") (LF p1 p2)), .un, .un, .un, .un, .un, .un, .o none (.g p1 (tF [])), .o none (.g p2 (.l []))]) rfl ?_
  refine bd_seq (sd_setN 4 pn_dictT rfl sc_law.nd) ?_
  refine bd_seq (sd_setN 5 (pn_lst ad_nil) rfl sc_law.nd) ?_
  refine bd_env (ρ' := ZS K p1 p2 sc q1 ns ([], []) [] [] .un .un .un .un) rfl ?_
  obtain ⟨v0, q2, hv0, bv0⟩ := drawS q1 (n := 31) (by decide) (by decide)
  refine bd_cut (fun r : En => ∃ (st : St) (q : Pool) (x6 x7 x8 x9 : Sl), (Adds st ∧ st.1.length ≤ 2 * 31 ∧ st.2.length ≤ 31) ∧ r = ZS K p1 p2 sc q ns st st.1 st.2 x6 x7 x8 x9) (sd_forM (List.range v0.toNat) (fun i : Nat => PyData.int (i : Int)) (fun (i : Nat) (r : En) => ∃ (st : St) (q : Pool) (x6 x7 x8 x9 : Sl), (Adds st ∧ st.1.length ≤ 2 * i ∧ st.2.length ≤ i) ∧ r = ZS K p1 p2 sc q ns st st.1 st.2 x6 x7 x8 x9) (passes_of rfl) rfl (id_rangeI Y.z_range (pd_callO (y := PyData.int v0) (xs' := pl q2) 1 (c__law_draw Y) hr .nil rfl (ad_cons pd_int ad_nil) rfl hv0) (by omega) (by omega)) ⟨_, (by repeat (first | exact Le.nil | apply Le.eq | apply Le.un)), ([], []), q2, .un, .un, .un, .un, ⟨adds0, Nat.zero_le _, Nat.zero_le _⟩, rfl⟩ (fun _ _ _ => trivial) (fun i a r ha hI => ?_) (fun r h => ?_)) ?_
  case refine_3 =>
    rintro r ⟨st, q, x6, x7, x8, x9, _, rfl⟩
    exact bd_one (sd_ret pd_bl rfl)
  case refine_2 =>
    obtain ⟨st, q, x6, x7, x8, x9, ⟨h1, h2, h3⟩, rfl⟩ := h
    rw [List.length_range] at h2 h3
    exact ⟨st, q, x6, x7, x8, x9, ⟨h1, by omega, by omega⟩, rfl⟩
  have hi : i < v0.toNat := by have h9 := (List.getElem?_eq_some_iff.mp ha).1; rwa [List.length_range] at h9
  obtain ⟨st, q, x6, x7, x8, x9, ⟨had, hm1, hm2⟩, rfl⟩ := hI
  refine ⟨_, (gd_name 6 sc_law.nd), ?_⟩
  obtain ⟨wd, q3, hwm, hwp⟩ := pickS q (["lend", "lend", "lend", "pay", "pay", "pass", "pass"] : List Str) PyData.str (by decide) (by decide)
  have hwd : wd = "lend" ∨ wd = "pay" ∨ wd = "pass" := by
    simp only [List.mem_cons, List.not_mem_nil, or_false] at hwm
    rcases hwm with h | h | h | h | h | h | h <;> simp [h]
  refine bd_env (ρ' := ZS K p1 p2 sc q ns st st.1 st.2 (.d (PyData.int (a : Int))) x7 x8 x9) rfl ?_
  refine bd_seq (sd_set 7 (pd_callO (y := .str wd) (xs' := pl q3) 1 (c__law_pick Y) hr .nil rfl (ad_cons (pd_n (pn_lst (ad_cons pd_str (ad_cons pd_str (ad_cons pd_str (ad_cons pd_str (ad_cons pd_str (ad_cons pd_str (ad_cons pd_str ad_nil)))))))) ) ad_nil) rfl hwp) rfl sc_law.nd) ?_
  refine bd_env (ρ' := ZS K p1 p2 sc q3 ns st st.1 st.2 (.d (PyData.int (a : Int))) (.d (.str wd)) x8 x9) rfl ?_
  have hwl := ww_len ns
  obtain ⟨xa, q4, hxa, hpa⟩ := pickS q3 (WW ns) dAs (by omega) (by omega)
  obtain ⟨xb, q5, hxb, hpb⟩ := pickS q4 (WW ns) dAs (by omega) (by omega)
  have hla := ww_short hxa
  have hlb := ww_short hxb
  refine bd_seq (sd_set 8 (x := .tuple [.str wd, dAs xa, dAs xb]) (pd_tup (ad_cons (pd_var 7 rfl) (ad_cons (pd_callO (y := dAs xa) (xs' := pl q4) 1 (c__law_pick Y) hr .nil rfl (ad_cons (pd_n (pn_catM (f := dAs) (ns := ns.map nmA ++ ns.map nmA) (ms := [qA]) (pq_n (pn_catM (f := dAs) (ns := ns.map nmA) (ms := ns.map nmA) (pq_d (pd_cast (nm_list ns) (pd_var 2 rfl))) srcN (pq_d (pd_cast (nm_list ns) (pd_var 2 rfl))) srcN (by rw [List.length_map]; omega))) srcN (pq_n (pn_lst (ad_cons pd_str ad_nil))) srcN (by rw [List.length_append, List.length_map]; simp; omega))) ad_nil) rfl hpa) (ad_cons (pd_callO (y := dAs xb) (xs' := pl q5) 1 (c__law_pick Y) hr .nil rfl (ad_cons (pd_n (pn_catM (f := dAs) (ns := ns.map nmA ++ ns.map nmA) (ms := [qA]) (pq_n (pn_catM (f := dAs) (ns := ns.map nmA) (ms := ns.map nmA) (pq_d (pd_cast (nm_list ns) (pd_var 2 rfl))) srcN (pq_d (pd_cast (nm_list ns) (pd_var 2 rfl))) srcN (by rw [List.length_map]; omega))) srcN (pq_n (pn_lst (ad_cons pd_str ad_nil))) srcN (by rw [List.length_append, List.length_map]; simp; omega))) ad_nil) rfl hpb) ad_nil)))) rfl sc_law.nd) ?_
  refine bd_env (ρ' := ZS K p1 p2 sc q5 ns st st.1 st.2 (.d (PyData.int (a : Int))) (.d (.str wd)) (.d (.tuple [.str wd, dAs xa, dAs xb])) x9) rfl ?_
  refine bd_cut (fun r : En => ∃ (xs : List PyData) (dm : Option Int → Dd) (q : Pool) (x7 : Sl), ((∀ v, dDd (dm v) = .tuple (xs ++ [dV v])) ∧ (∀ v, (dm v).short) ∧ xs.length ≤ 10) ∧ r = ZS K p1 p2 sc q ns st st.1 st.2 (.d (PyData.int (a : Int))) x7 (.d (.tuple xs)) x9) ?_ ?_
  · rcases hwd with rfl | rfl | rfl
    · exact sd_if (k := false) (td_cast (k := decide (("lend" : Str) = ("pass" : Str))) (by decide +kernel) (td_eqS (pd_var 7 rfl) pd_str)) (fun h => nomatch h) (fun _ => bd_nil ⟨[.str "lend", dAs xa, dAs xb], fun v => .lend xa xb v, q5, _, ⟨fun _ => rfl, fun _ => ⟨hla, hlb⟩, by show (3 : Nat) ≤ 10; decide⟩, rfl⟩)
    · exact sd_if (k := false) (td_cast (k := decide (("pay" : Str) = ("pass" : Str))) (by decide +kernel) (td_eqS (pd_var 7 rfl) pd_str)) (fun h => nomatch h) (fun _ => bd_nil ⟨[.str "pay", dAs xa, dAs xb], fun v => .pay xa xb v, q5, _, ⟨fun _ => rfl, fun _ => ⟨hla, hlb⟩, by show (3 : Nat) ≤ 10; decide⟩, rfl⟩)
    · obtain ⟨xc, q6, hxc, hpc⟩ := pickS q5 (WW ns) dAs (by omega) (by omega)
      have hlc := ww_short hxc
      exact sd_if (k := true) (td_cast (k := decide (("pass" : Str) = ("pass" : Str))) (by decide +kernel) (td_eqS (pd_var 7 rfl) pd_str)) (fun _ => bd_one (sd_set 8 (x := .tuple [.str "pass", dAs xa, dAs xb, dAs xc]) (pd_addT (xs := [.str "pass", dAs xa, dAs xb]) (ys := [dAs xc]) (pd_var 8 rfl) (pd_tup (ad_cons (pd_callO (y := dAs xc) (xs' := pl q6) 1 (c__law_pick Y) hr .nil rfl (ad_cons (pd_n (pn_catM (f := dAs) (ns := ns.map nmA ++ ns.map nmA) (ms := [qA]) (pq_n (pn_catM (f := dAs) (ns := ns.map nmA) (ms := ns.map nmA) (pq_d (pd_cast (nm_list ns) (pd_var 2 rfl))) srcN (pq_d (pd_cast (nm_list ns) (pd_var 2 rfl))) srcN (by rw [List.length_map]; omega))) srcN (pq_n (pn_lst (ad_cons pd_str ad_nil))) srcN (by rw [List.length_append, List.length_map]; simp; omega))) ad_nil) rfl hpc) ad_nil)) (by show (4 : Nat) ≤ 100000; decide)) ⟨[.str "pass", dAs xa, dAs xb, dAs xc], fun v => .pas xa xb xc v, q6, _, ⟨fun _ => rfl, fun _ => ⟨hla, hlb, hlc⟩, by show (4 : Nat) ≤ 10; decide⟩, rfl⟩ sc_law.nd)) (fun h => nomatch h)
  rintro r ⟨xs, dm, q6, y7, ⟨hdm, hsh, hxl⟩, rfl⟩
  obtain ⟨v1, q7, hv1, bv1⟩ := drawS q6 (n := 9) (by decide) (by decide)
  obtain ⟨v2, q8, hv2, bv2⟩ := drawS q7 (n := 3) (by decide) (by decide)
  obtain ⟨vv, q9, _, hpv⟩ := pickS q8 ([some (1 + v1), some (1 + v2), some 0, some (-1), none, some 1000000, some 1000001] : List (Option Int)) dV (by simp) (by simp)
  refine bd_seq (sd_set 8 (x := .tuple (xs ++ [dV vv])) (pd_addT (xs := xs) (ys := [dV vv]) (pd_var 8 rfl) (pd_tup (ad_cons (pd_callO (y := dV vv) (xs' := pl q9) 1 (c__law_pick Y) hr .nil rfl (ad_cons (pd_n (pn_lst (ad_cons (pd_add (i := 1) (j := v1) pd_int (pd_callO (y := .int v1) (xs' := pl q7) 1 (c__law_draw Y) hr .nil rfl (ad_cons pd_int ad_nil) rfl hv1)) (ad_cons (pd_add (i := 1) (j := v2) pd_int (pd_callO (y := .int v2) (xs' := pl q8) 1 (c__law_draw Y) hr .nil rfl (ad_cons pd_int ad_nil) rfl hv2)) (ad_cons pd_int (ad_cons (pd_neg pd_int) (ad_cons pd_bl (ad_cons pd_int (ad_cons pd_int ad_nil)))))))) ) ad_nil) rfl hpv) ad_nil)) (by simp; omega)) rfl sc_law.nd) ?_
  generalize hdd : dm vv = dd
  have hsd : dd.short := by rw [← hdd]; exact hsh vv
  refine bd_env (ρ' := ZS K p1 p2 sc q9 ns st st.1 st.2 (.d (PyData.int (a : Int))) y7 (.d (dDd dd)) x9) (by rw [← hdd, hdm vv]; rfl) ?_
  clear hdm hsh hpv hdd
  have hle := step_le st dd
  refine bd_seq (sd_set 9 (x := .str (ocT (step st dd).1)) (pd_callG (c__law_due Y) hr .nil (ag_o 0 4 (pv_name 4) rfl rfl (ag_d (pd_var 8 rfl) ag_nil)) (hs := [4]) (bs := [none]) (cs := [tF st.1]) (cs' := [tF (step st dd).2.1]) ⟨rfl, trivial⟩ (by decide) (fun qs hq => ?_)) rfl sc_law.nd) ?_
  · match qs, hq with
    | [z], _ => exact ⟨z, st.1, st.2, dd, rfl, rfl, rfl, ⟨by omega, hsd⟩, rfl, rfl⟩
  refine bd_env (ρ' := ZS K p1 p2 sc q9 ns st (step st dd).2.1 st.2 (.d (PyData.int (a : Int))) y7 (.d (dDd dd)) (.d (.str (ocT (step st dd).1)))) rfl ?_
  refine bd_guard (k := false) (td_cast (ocT_ne (step st dd).1) (td_neS (s := ocT (step st dd).1) (t := ocT (step st dd).1) (pd_callG (c__law_done Y) hr .nil (ag_o 0 3 (pv_name 3) rfl rfl (ag_d (pd_var 8 rfl) ag_nil)) (hs := [3, 10, 11]) (bs := [none, none, none]) (cs := LC K p1 p2 st) (cs' := LC K p1 p2 (step st dd).2) ⟨rfl, rfl, rfl, trivial⟩ (by decide) (fun qs hq => ?_)) (pd_var 9 rfl))) (fun h => nomatch h) (fun _ => ?_)
  · obtain ⟨p0, rfl⟩ := adr_LC hq
    exact ⟨p0, p1, p2, st, dd, rfl, rfl, rfl, ⟨⟨by omega, by omega⟩, hsd⟩, rfl, rfl⟩
  refine bd_env (ρ' := ZS K p1 p2 sc q9 ns (step st dd).2 (step st dd).2.1 st.2 (.d (PyData.int (a : Int))) y7 (.d (dDd dd)) (.d (.str (ocT (step st dd).1)))) rfl ?_
  refine bd_seq (ρ1 := ZS K p1 p2 sc q9 ns (step st dd).2 (step st dd).2.1 (step st dd).2.2 (.d (PyData.int (a : Int))) y7 (.d (dDd dd)) (.d (.str (ocT (step st dd).1)))) (sd_if (k := decide ((step st dd).1 = .done)) (td_cast (ocT_done (step st dd).1) (td_eqS (pd_var 9 rfl) pd_str)) (fun hk => ?_) (fun hk => ?_)) ?_
  · obtain ⟨g, hg1, hg2⟩ := step_done (of_decide_eq_true hk)
    rw [hg1]
    have e : (Sl.o none (.l ((st.2 ++ [g]).map dLg))) = .o none (.l (st.2.map dLg ++ [dDd dd])) := by rw [log_app, hg2]
    refine bd_one (sd_append 5 rfl (pd_var 8 rfl) rfl (by rw [List.length_map]; omega) ?_)
    exact congrArg (fun s => (ZS K p1 p2 sc q9 ns (step st dd).2 (step st dd).2.1 st.2 (.d (PyData.int (a : Int))) y7 (.d (dDd dd)) (.d (.str (ocT (step st dd).1)))).set 5 s) e.symm
  · rw [step_not (of_decide_eq_false hk)]
    exact bd_nil rfl
  have had2 := adds_step had dd
  refine bd_guard (k := !true) (td_not (td_val (pd_callG (c__law_told_right Y) hr .nil (ag_o 0 3 (pv_name 3) rfl rfl (ag_o 3 4 (pv_name 4) rfl rfl (ag_o 4 5 (pv_name 5) rfl rfl (ag_d (pd_var 2 rfl) ag_nil)))) (hs := [3, 10, 11, 4, 5]) (bs := [none, none, none, none, none]) (cs := LC K p1 p2 (step st dd).2 ++ [tF (step st dd).2.1, .l ((step st dd).2.2.map dLg)]) (cs' := LC K p1 p2 (step st dd).2 ++ [tF (step st dd).2.1, .l ((step st dd).2.2.map dLg)]) (y := .bool true) ⟨rfl, rfl, rfl, rfl, rfl, trivial⟩ (by decide) (fun qs hq => ?_)))) (fun h => nomatch h) (fun _ => ?_)
  · match qs, hq with
    | [z0, _, _, z3, z4], ⟨rfl, rfl, _⟩ => exact ⟨z0, _, _, z3, z4, (step st dd).2, ns, rfl, rfl, rfl, ⟨⟨by omega, by omega⟩, had2, by omega⟩, rfl, rfl⟩
  exact bd_nil ⟨_, Le.refl _, (step st dd).2, q9, _, y7, _, _, ⟨had2, by omega, by omega⟩, rfl⟩
end
end GP
namespace GP
open PySem PySem.Spec PyProof.Rows L2 G

theorem law_fin {P : Program} (hP : (P.main.file == fileS) = true) (hT : (P.main.scope.names.lookup ("super" : Str)).isSome = false) {w : World} {K : PySem.W.Frag} {h : Heap} {mg : Str → Option Value} {fa : Addr} (X : K.In h) (G : h.Ns mainGlobals mg) (hfa : mg ("law" : Str) = some (.ref fa)) (c : He.SaysX fA fn [] [] exB w h K) :
    ∃ (K : PySem.W.Frag) (fd : FuncData) (sp : Sp), K.In h ∧ (∀ (s : Shared) (u : Value), BindsTo s fd ⟨[u], []⟩ [("script", u)]) ∧
        (∀ (H : Hp) (a : Addr) (ns : List Int), ns.length ≤ 63 → Only H → SqL K H a (ns.map V.int) → sp [.ref a] H (fun v _ => v = .bl true) fun _ _ _ => False) ∧
        ∀ base : Heap, K.In base → base.Ns mainGlobals mg → FnOk P w K mg base CX0 20 fa fd ["script"] sp := by
  have Y := py_of hP hT X G c
  obtain ⟨fd, F⟩ := Y.d_law
  have e := hfa.symm.trans Y.g_law
  cases e
  have b := FunD.bindsA (ps := ["script"]) F fun _ _ _ _ _ _ us hl => match us, hl with | [_], _ => rfl
  exact ⟨K, fd, fun vs H Q _ => spD K LawS vs H Q E0, X, fun s v => b s [v] rfl, fun H a ns hl _ hS => law_end H a ns hl hS, fun base _ _ => fn_shut (law_fn F Y)⟩
def loose0 : List Str := [("GrainError" : Str), ("InvalidName" : Str), ("InvalidNumber" : Str), ("NotNow" : Str), ("LETTERS" : Str), ("LONGEST" : Str), ("GREATEST" : Str), ("is_name" : Str), ("checked_name" : Str), ("is_number" : Str), ("checked_number" : Str), ("Ledger" : Str), ("_law_same" : Str), ("_law_pool" : Str), ("_law_draw" : Str), ("_law_pick" : Str), ("_law_names" : Str), ("_law_good" : Str), ("_law_done" : Str), ("_law_due" : Str), ("_law_told_right" : Str)]
abbrev hk : PySem.W.Hook := hookS 4 fA fn exB
def ob (s : PySem.W.SharedT) : He.AlX := obsS 4 fA fn exB (HandSHeadRun.getT s)
theorem ob_eq (s : PySem.W.SharedT) : ob s = hk.obs s.abs := obsS_eq (HandSHeadRun.getT_eq s)
theorem run (w : World) : HandSHeadRun.RunEq (PySem.W.OpenLaw.row PySem.Challenge.rw_grainhaul_k63_ledgers_add_up) (PySem.W.view (PySem.W.OpenLaw.row PySem.Challenge.rw_grainhaul_k63_ledgers_add_up).prog [25]) hk ob 3000 (loose0) w := by
  intro os
  kernel_rfl
end GP
open PySem PySem.W PySem.Calls PyProof.Rows
set_option maxHeartbeats 0 in
theorem PySem.Challenge.cw_grainhaul_k63_ledgers_add_up_holds : PySem.Challenge.rw_grainhaul_k63_ledgers_add_up.Holds := by
  w_on; o_law
  refine HandSHeadRun.head_any (r := OpenLaw.row PySem.Challenge.rw_grainhaul_k63_ledgers_add_up) (q := view (OpenLaw.row PySem.Challenge.rw_grainhaul_k63_ledgers_add_up).prog [25]) (H := GP.hk) (ob := GP.ob) (M := 3000) (loose := GP.loose0) (d := HandSHeadRun.topDef (OpenLaw.row PySem.Challenge.rw_grainhaul_k63_ledgers_add_up).prog 25) (kwd := []) GP.ob_eq
    (by kernel_rfl) (fun s => by kernel_rfl) GP.run (by kernel_rfl) (by kernel_rfl) (by kernel_rfl) (by rfl) (by first | assumption | decide +kernel) (by decide +kernel) ⟨rfl, rfl, rfl, rfl, rfl, by decide +kernel⟩ ?hw ?hc
  case hw => w_witness2
  case hc =>
    refine L2.walk_ofE (l := PySem.Challenge.rw_grainhaul_k63_ledgers_add_up) (n := 63) (k := 20) (x := "script") (CX := L2.CX0) rfl (by decide) (by kernel_rfl) ⟨rfl, by decide, by decide⟩ ?F (fun _ _ _ _ z => z)
    intro w mg fa h Y G hmg0
    obtain ⟨K, KX, c⟩ := Y
    have hmg : mg ("law" : PySem.Str) = some (.ref fa) := by
      have e : (HandSHeadRun.topDef (OpenLaw.row PySem.Challenge.rw_grainhaul_k63_ledgers_add_up).prog 25).name = ("law" : PySem.Str) := by kernel_rfl
      rw [← e]
      exact hmg0
    exact GP.law_fin (by first | rfl | decide +kernel) (by first | rfl | decide +kernel) (w := w) KX G hmg c
