import PyProof.Rows.All
import Wide.All
import OpenK.AllK
import Wide.FinOn
import HandS.ForMost
import HandS.Wide
import HandS.IsInst
import HandS.TupAny
import HandS.TupLe
import HandS.TupMul
import HandS.SortInts
import HandS.Style
import HandS.NoneIn
import HandS.Zip
import PyProof.Rows.Digits
import PyProof.ReprRoads
import PyProof.Rows.StrOr
import HandS.Dict
import HandS.Conv
import PyProof.StrLawsIn
import KE.KIntText
import PyProof.Rows.TupAdd
import PySem.Challenge.RW_hourforms_k02_what_is_a_formula
set_option Elab.async false
set_option linter.all false
set_option maxRecDepth 100000
set_option maxHeartbeats 1000000
set_option autoImplicit false
/-! The data layer, part a: what a value stands for, what a slot holds, the relation of a frame. -/
namespace DL
open PySem L2

abbrev PD := PyData
def keyD : Key → PD
  | .inl i => .int i
  | .inr s => .str s
def tkeyD (k : List Key) : PD := .tuple (k.map keyD)

theorem seqT {K : PySem.W.Frag} {H H' : Hp} {a : Addr} {xs : List V} (e : Same H H') (h : SqT K H a xs) : SqT K H' a xs := by
  rcases h with (h | ⟨o, h⟩) | h
  · exact .inl (.inl (e _ _ h))
  · exact .inl (.inr ⟨o, e _ _ h⟩)
  · exact .inr h

theorem rdM {H H' : Hp} {a : Addr} {u : HO} (e : Same H H') (h : Rd H a u) : Rd H' a u := by
  rcases h with h | ⟨o, h⟩
  · exact .inl (e _ _ h)
  · exact .inr ⟨o, e _ _ h⟩
mutual
/-- the value v stands, in H, for the data d -/
inductive Df (K : PySem.W.Frag) (H : Hp) : V → PD → Prop
  | non : Df K H .non .none
  | bl (b : Bool) : Df K H (.bl b) (.bool b)
  | int (i : Int) : Df K H (.int i) (.int i)
  | str (x : Str) : Df K H (.str x) (.str x)
  | lst {a : Addr} {xs : List V} {ds : List PD} : Rd H a (.lst xs) → DfA K H xs ds → Df K H (.ref a) (.list ds)
  | tup {a : Addr} {xs : List V} {ds : List PD} : SqT K H a xs → DfA K H xs ds → Df K H (.ref a) (.tuple ds)
  | dk {a : Addr} {kvs : List (Key × V)} {es : List (PD × PD)} : H a = some (.dK kvs) → DfK K H kvs es → Df K H (.ref a) (.dict es)
  | ins {a C dx : Addr} {fs : List (Str × V)} {es : List (PD × PD)} : H a = some (.ins C dx fs) → DfF K H fs es → Df K H (.ref a) (.dict ((.none, .int (C : Int)) :: es))
inductive DfA (K : PySem.W.Frag) (H : Hp) : List V → List PD → Prop
  | nil : DfA K H [] []
  | cons {v : V} {vs : List V} {d : PD} {ds : List PD} : Df K H v d → DfA K H vs ds → DfA K H (v :: vs) (d :: ds)
inductive DfK (K : PySem.W.Frag) (H : Hp) : List (Key × V) → List (PD × PD) → Prop
  | nil : DfK K H [] []
  | cons {k : Key} {v : V} {vs : List (Key × V)} {d : PD} {ds : List (PD × PD)} : Df K H v d → DfK K H vs ds → DfK K H ((k, v) :: vs) ((keyD k, d) :: ds)
inductive DfF (K : PySem.W.Frag) (H : Hp) : List (Str × V) → List (PD × PD) → Prop
  | nil : DfF K H [] []
  | cons {k : Str} {v : V} {vs : List (Str × V)} {d : PD} {ds : List (PD × PD)} : Df K H v d → DfF K H vs ds → DfF K H ((k, v) :: vs) ((.str k, d) :: ds)
end

section
variable {K : PySem.W.Frag} {H H' F F' : Hp} {v : V} {d : PD} {vs : List V} {ds : List PD}
theorem Df.mono (e : Same H H') (h : Df K H v d) : Df K H' v d :=
  Df.rec (motive_1 := fun v d _ => Df K H' v d) (motive_2 := fun vs ds _ => DfA K H' vs ds) (motive_3 := fun vs ds _ => DfK K H' vs ds) (motive_4 := fun vs ds _ => DfF K H' vs ds)
    .non .bl .int .str (fun h _ ih => .lst (rdM e h) ih) (fun h _ ih => .tup (seqT e h) ih) (fun h _ ih => .dk (e _ _ h) ih) (fun h _ ih => .ins (e _ _ h) ih)
    .nil (fun _ _ a b => .cons a b) .nil (fun _ _ a b => .cons a b) .nil (fun _ _ a b => .cons a b) h
theorem DfA.mono (e : Same H H') (h : DfA K H vs ds) : DfA K H' vs ds := by
  induction vs generalizing ds with
  | nil => cases h; exact .nil
  | cons v vs ih =>
    cases h with
    | cons a b => exact .cons (a.mono e) (ih b)
theorem DfK.mono {vs : List (Key × V)} {ds : List (PD × PD)} (e : Same H H') (h : DfK K H vs ds) : DfK K H' vs ds := by
  induction vs generalizing ds with
  | nil => cases h; exact .nil
  | cons v vs ih =>
    cases h with
    | cons a b => exact .cons (a.mono e) (ih b)
theorem DfF.mono {vs : List (Str × V)} {ds : List (PD × PD)} (e : Same H H') (h : DfF K H vs ds) : DfF K H' vs ds := by
  induction vs generalizing ds with
  | nil => cases h; exact .nil
  | cons v vs ih =>
    cases h with
    | cons a b => exact .cons (a.mono e) (ih b)
theorem DfA.length (h : DfA K H vs ds) : vs.length = ds.length := by
  induction vs generalizing ds with
  | nil => cases h; rfl
  | cons v vs ih =>
    cases h with
    | cons a b => rw [List.length_cons, List.length_cons, ih b]
theorem DfA.append {us : List V} {es : List PD} (h : DfA K H vs ds) (g : DfA K H us es) : DfA K H (vs ++ us) (ds ++ es) := by
  induction vs generalizing ds with
  | nil => cases h; exact g
  | cons v vs ih =>
    cases h with
    | cons a b => exact .cons a (ih b)
theorem DfA.get {i : Nat} (h : DfA K H vs ds) (e : ds[i]? = some d) : ∃ v, vs[i]? = some v ∧ Df K H v d := by
  induction vs generalizing ds i with
  | nil => cases h; simp at e
  | cons v vs ih =>
    cases h with
    | cons a b =>
      cases i with
      | zero => simp at e; subst e; exact ⟨v, rfl, a⟩
      | succ i => simp at e; obtain ⟨u, h1, h2⟩ := ih b e; exact ⟨u, by simpa using h1, h2⟩
theorem DfA.get' {i : Nat} (h : DfA K H vs ds) (e : vs[i]? = some v) : ∃ d, ds[i]? = some d ∧ Df K H v d := by
  induction vs generalizing ds i with
  | nil => simp at e
  | cons u vs ih =>
    cases h with
    | cons a b =>
      cases i with
      | zero => simp at e; subst e; exact ⟨_, rfl, a⟩
      | succ i => simp at e; obtain ⟨u, h1, h2⟩ := ih b e; exact ⟨u, by simpa using h1, h2⟩
theorem DfA.take (n : Nat) (h : DfA K H vs ds) : DfA K H (vs.take n) (ds.take n) := by
  induction vs generalizing ds n with
  | nil => cases h; simp; exact .nil
  | cons v vs ih =>
    cases h with
    | cons a b =>
      cases n with
      | zero => exact .nil
      | succ n => exact .cons a (ih n b)
theorem DfA.drop (n : Nat) (h : DfA K H vs ds) : DfA K H (vs.drop n) (ds.drop n) := by
  induction vs generalizing ds n with
  | nil => cases h; simp; exact .nil
  | cons v vs ih =>
    cases h with
    | cons a b =>
      cases n with
      | zero => exact .cons a b
      | succ n => exact ih n b
theorem DfA.set (i : Nat) (h : DfA K H vs ds) (g : Df K H v d) : DfA K H (vs.set i v) (ds.set i d) := by
  induction vs generalizing ds i with
  | nil => cases h; exact .nil
  | cons v vs ih =>
    cases h with
    | cons a b =>
      cases i with
      | zero => exact .cons g b
      | succ i => exact .cons a (ih i b)
theorem DfA.snoc (h : DfA K H vs ds) (g : Df K H v d) : DfA K H (vs ++ [v]) (ds ++ [d]) := h.append (.cons g .nil)
theorem DfA.replicate (n : Nat) (g : DfA K H vs ds) : DfA K H (List.replicate n vs).flatten (List.replicate n ds).flatten := by
  induction n with
  | zero => exact .nil
  | succ n ih => rw [List.replicate_succ, List.replicate_succ, List.flatten_cons, List.flatten_cons]; exact g.append ih
theorem DfA.ints (ns : List Int) : DfA K H (ns.map V.int) (ns.map PyData.int) := by
  induction ns with
  | nil => exact .nil
  | cons n r ih => exact .cons (.int n) ih
end

/-! ### data without dicts and instances: the layer's own reading of data -/
mutual
def noDict : PD → Bool
  | .dict _ => false
  | .list xs => noDictA xs
  | .tuple xs => noDictA xs
  | _ => true
def noDictA : List PD → Bool
  | [] => true
  | x :: r => noDict x && noDictA r
end
section
variable {K : PySem.W.Frag} {H : Hp}
theorem Df.dp {v : V} {d : PD} (h : Df K H v d) : noDict d = true → Dp K H v d :=
  Df.rec (motive_1 := fun v d _ => noDict d = true → Dp K H v d) (motive_2 := fun vs ds _ => noDictA ds = true → DpAll K H vs ds) (motive_3 := fun _ _ _ => True) (motive_4 := fun _ _ _ => True)
    (fun _ => .non) (fun b _ => .bl b) (fun i _ => .int i) (fun x _ => .str x) (fun h _ ih e => .lst (.inl h) (ih (by simpa [noDict] using e))) (fun h _ ih e => .tup h (ih (by simpa [noDict] using e)))
    (fun _ _ _ e => by simp [noDict] at e) (fun _ _ _ e => by simp [noDict] at e)
    (fun _ => .nil) (fun _ _ a b e => by simp [noDictA] at e; exact .cons (a e.1) (b e.2)) trivial (fun _ _ _ _ => trivial) trivial (fun _ _ _ _ => trivial) h
end

/-! ### what a slot holds -/
/-- frozen data; an own list, an own dict (p: it is the caller's, handed in as the p-th of such) -/
inductive Lc where
  | d (x : PD)
  | ls (p : Option Nat) (xs : List PD)
  | dk (p : Option Nat) (kvs : List (Key × PD))
  | dt (p : Option Nat) (kvs : List (List Key × PD))
  /-- a list that is only read: the script -/
  | sc (xs : List PD)
abbrev En := List (Option Lc)
def Lc.own : Lc → Bool
  | .ls _ _ => true
  | .dk _ _ => true
  | .dt _ _ => true
  | _ => false
def Lc.tag : Lc → Option Nat
  | .ls p _ => p
  | .dk p _ => p
  | .dt p _ => p
  | _ => none
def Lc.retag (q : Option Nat) : Lc → Lc
  | .ls _ xs => .ls q xs
  | .dk _ xs => .dk q xs
  | .dt _ xs => .dt q xs
  | l => l
theorem Lc.retag_own (q : Option Nat) (l : Lc) : (l.retag q).own = l.own := by cases l <;> rfl
theorem Lc.retag_tag (q : Option Nat) (l : Lc) (h : l.own = true) : (l.retag q).tag = q := by cases l <;> first | rfl | (simp [Lc.own] at h)

/-- the parts of a def's run that stay: the heap and the frozen part at its entry, the lists that it may change -/
structure Gm where
  H0 : Hp
  F0 : Hp
  io : List Addr

def DKv {κ : Type} (K : PySem.W.Frag) (F : Hp) : List (κ × V) → List (κ × PD) → Prop := Paired fun p q => p.1 = q.1 ∧ Df K F p.2 q.2
/-- the object of an own thing -/
def HoOk (K : PySem.W.Frag) (F : Hp) : Lc → HO → Prop
  | .ls _ xs, .lst vs => DfA K F vs xs
  | .dk _ kvs, .dK us => DKv K F us kvs
  | .dt _ kvs, .dT us => DKv K F us kvs
  | _, _ => False
theorem DKv.mono {κ : Type} {K : PySem.W.Frag} {F F' : Hp} (e : Same F F') {us : List (κ × V)} {kvs : List (κ × PD)} (h : DKv K F us kvs) : DKv K F' us kvs :=
  Paired.mapP h fun _ _ z => ⟨z.1, z.2.mono e⟩
theorem HoOk.mono {K : PySem.W.Frag} {F F' : Hp} {l : Lc} {o : HO} (e : Same F F') (h : HoOk K F l o) : HoOk K F' l o := by
  cases l <;> cases o <;> first | exact False.elim h | exact DfA.mono e h | exact DKv.mono e h
theorem HoOk.retag {K : PySem.W.Frag} {F : Hp} {l : Lc} {o : HO} (q : Option Nat) (h : HoOk K F l o) : HoOk K F (l.retag q) o := by
  cases l <;> cases o <;> first | exact False.elim h | exact h
theorem HoOk.own {K : PySem.W.Frag} {F : Hp} {l : Lc} {o : HO} (h : HoOk K F l o) : l.own = true := by
  cases l <;> cases o <;> first | exact False.elim h | rfl
def OwnP (G : Gm) : Option Nat → Addr → Prop
  | none, a => G.H0 a = none
  | some i, a => G.io[i]? = some a
/-- an own thing stands at a -/
structure At (K : PySem.W.Frag) (G : Gm) (F H : Hp) (l : Lc) (a : Addr) : Prop where
  nf : F a = none
  ow : OwnP G l.tag a
  ob : ∃ o, H a = some o ∧ HoOk K F l o
/-- a list that is read alone -/
def ScOk (K : PySem.W.Frag) (F : Hp) (xs : List PD) (v : V) : Prop := ∃ a vs, v = .ref a ∧ SqL K F a vs ∧ DfA K F vs xs
theorem ScOk.mono {K : PySem.W.Frag} {F F' : Hp} {xs : List PD} {v : V} (e : Same F F') (h : ScOk K F xs v) : ScOk K F' xs v := by
  obtain ⟨a, vs, h1, h2, h3⟩ := h
  exact ⟨a, vs, h1, e.seq h2, h3.mono e⟩
def SlotOk (K : PySem.W.Frag) (G : Gm) (F H : Hp) : Lc → Option (Option V) → Prop
  | .d x, s => ∃ v, s = some (some v) ∧ Df K F v x
  | .sc xs, s => ∃ v, s = some (some v) ∧ ScOk K F xs v
  | l, s => ∃ a, s = some (some (.ref a)) ∧ At K G F H l a

/-- the frame: ρ says what the slots σ hold over the heap H, F the frozen part of it -/
structure Rel (K : PySem.W.Frag) (G : Gm) (ρ : En) (F : Hp) (σ : L2.St) (H : Hp) : Prop where
  fh : Same F H
  ff : Same G.F0 F
  fr : ∀ b o, G.H0 b = some o → b ∉ G.io → H b = some o
  nw : ∀ b, F b ≠ none → G.F0 b = none → G.H0 b = none
  ih : ∀ a, a ∈ G.io → H a ≠ none ∧ G.H0 a ≠ none
  len : σ.length = ρ.length
  sl : ∀ (i : Nat) (l : Lc), ρ[i]? = some (some l) → SlotOk K G F H l σ[i]?
  ds : ∀ (i j : Nat) (l m : Lc) (v : V), ρ[i]? = some (some l) → ρ[j]? = some (some m) → l.own = true → m.own = true → σ[i]? = some (some v) → σ[j]? = some (some v) → i = j

/-- both heaps grow, old things stay -/
structure Grow (F H F' H' : Hp) : Prop where
  ff : Same F F'
  hh : Same H H'
  fh : Same F' H'
  nw : ∀ b, F' b ≠ none → F b = none → H b = none
section
variable {K : PySem.W.Frag} {G : Gm} {ρ : En} {F F' H H' F1 H1 : Hp} {σ : L2.St} {i j : Nat} {l m : Lc} {a p : Addr} {v : V} {x : PD} {o : HO}
theorem Grow.refl (h : Same F H) : Grow F H F H := ⟨Same.refl _, Same.refl _, h, fun b h1 h2 => absurd h2 h1⟩
theorem Grow.trans (g : Grow F H F1 H1) (k : Grow F1 H1 F' H') : Grow F H F' H' := by
  refine ⟨g.ff.trans k.ff, g.hh.trans k.hh, k.fh, fun b h1 h2 => ?_⟩
  cases e : F1 b with
  | none => exact g.hh.free (k.nw b h1 e)
  | some u => exact g.nw b (by rw [e]; simp) h2
theorem same_new (h : H p = none) (o : HO) : Same H (upd H p o) := fun b u q => by rw [upd_ne (ne_of_none q h)]; exact q
/-- a new object, frozen at once -/
theorem Grow.frozen (h : Same F H) (hp : H p = none) (o : HO) : Grow F H (upd F p o) (upd H p o) := by
  refine ⟨same_new (h.free hp) o, same_new hp o, fun b u e => ?_, fun b h1 h2 => ?_⟩
  · by_cases hb : b = p
    · subst hb; rw [upd_same] at e ⊢; exact e
    · rw [upd_ne hb] at e ⊢; exact h _ _ e
  · by_cases hb : b = p
    · subst hb; exact hp
    · rw [upd_ne hb] at h1; exact absurd h2 h1
/-- a new object, owned -/
theorem Grow.owned (h : Same F H) (hp : H p = none) (o : HO) : Grow F H F (upd H p o) :=
  ⟨Same.refl _, same_new hp o, h.trans (same_new hp o), fun b h1 h2 => absurd h2 h1⟩
theorem own_slot (h : l.own = true) {s : Option (Option V)} : SlotOk K G F H l s ↔ ∃ a, s = some (some (.ref a)) ∧ At K G F H l a := by
  cases l <;> first | exact Iff.rfl | (simp [Lc.own] at h)
theorem not_own (h : l.own = false) : (∃ x, l = .d x) ∨ ∃ x, l = .sc x := by
  cases l with
  | d x => exact .inl ⟨x, rfl⟩
  | sc v => exact .inr ⟨v, rfl⟩
  | ls p xs => simp [Lc.own] at h
  | dk p xs => simp [Lc.own] at h
  | dt p xs => simp [Lc.own] at h
theorem SlotOk.some {s : Option (Option V)} (h : SlotOk K G F H l s) : ∃ v, s = some (some v) := by
  cases l with
  | d x => obtain ⟨v, e, _⟩ := h; exact ⟨v, e⟩
  | sc xs => obtain ⟨v, e, _⟩ := h; exact ⟨v, e⟩
  | ls p xs => obtain ⟨a, e, _⟩ := h; exact ⟨_, e⟩
  | dk p xs => obtain ⟨a, e, _⟩ := h; exact ⟨_, e⟩
  | dt p xs => obtain ⟨a, e, _⟩ := h; exact ⟨_, e⟩
theorem At.grow (h : At K G F H l a) (g : Grow F H F' H') : At K G F' H' l a := by
  obtain ⟨nf, ow, ob, e, ok⟩ := h
  refine ⟨?_, ow, ob, g.hh _ _ e, ok.mono g.ff⟩
  cases q : F' a with
  | none => rfl
  | some u => have := g.nw a (by rw [q]; simp) nf; rw [e] at this; cases this
theorem SlotOk.grow {s : Option (Option V)} (h : SlotOk K G F H l s) (g : Grow F H F' H') : SlotOk K G F' H' l s := by
  cases hl : l.own with
  | true => rw [own_slot hl] at h ⊢; obtain ⟨a, e, z⟩ := h; exact ⟨a, e, z.grow g⟩
  | false =>
    rcases not_own hl with ⟨x, rfl⟩ | ⟨v, rfl⟩
    · obtain ⟨v, e, z⟩ := h; exact ⟨v, e, z.mono g.ff⟩
    · obtain ⟨v, e, z⟩ := h; exact ⟨v, e, z.mono g.ff⟩
theorem Rel.h0 (R : Rel K G ρ F σ H) (h : H p = none) : G.H0 p = none := by
  cases e : G.H0 p with
  | none => rfl
  | some u =>
    by_cases hp : p ∈ G.io
    · exact absurd h (R.ih p hp).1
    · have := R.fr p u e hp; rw [h] at this; cases this
theorem Rel.grow (R : Rel K G ρ F σ H) (g : Grow F H F' H') : Rel K G ρ F' σ H' := by
  refine ⟨g.fh, R.ff.trans g.ff, fun b o e hb => g.hh _ _ (R.fr b o e hb), fun b h1 h2 => ?_, fun a ha => ?_, R.len, fun i l e => (R.sl i l e).grow g, R.ds⟩
  · cases e : F b with
    | none => exact R.h0 (g.nw b h1 e)
    | some u => exact R.nw b (by rw [e]; simp) h2
  · refine ⟨?_, (R.ih a ha).2⟩
    cases e : H a with
    | none => exact absurd e (R.ih a ha).1
    | some u => rw [g.hh _ _ e]; simp
theorem set_get {α : Type} {xs : List α} {i j : Nat} {y z : α} (h : (xs.set i y)[j]? = some z) : (j = i ∧ i < xs.length ∧ z = y) ∨ (j ≠ i ∧ xs[j]? = some z) := by
  by_cases hj : j = i
  · subst hj
    by_cases hl : j < xs.length
    · rw [List.getElem?_set_self hl] at h; cases h; exact .inl ⟨rfl, hl, rfl⟩
    · rw [List.getElem?_eq_none (by rw [List.length_set]; omega)] at h; cases h
  · rw [List.getElem?_set_ne (Ne.symm hj)] at h; exact .inr ⟨hj, h⟩
/-- a slot is stored -/
theorem Rel.store (R : Rel K G ρ F σ H) (i : Nat) (h : SlotOk K G F H l (some (some v))) (hf : l.own = true → ∀ (j : Nat) (m : Lc), ρ[j]? = some (some m) → m.own = true → σ[j]? ≠ some (some v)) :
    Rel K G (ρ.set i (some l)) F (σ.set i (some v)) H := by
  refine ⟨R.fh, R.ff, R.fr, R.nw, R.ih, by rw [List.length_set, List.length_set]; exact R.len, fun j m e => ?_, fun j k m n u e1 e2 h1 h2 e3 e4 => ?_⟩
  · rcases set_get e with ⟨rfl, hl, z⟩ | ⟨hj, e⟩
    · cases z; rw [List.getElem?_set_self (by rw [R.len]; exact hl)]; exact h
    · rw [List.getElem?_set_ne (Ne.symm hj)]; exact R.sl j m e
  · rcases set_get e1 with ⟨rfl, hl, z⟩ | ⟨hj, e1'⟩
    · rcases set_get e2 with ⟨rfl, hl', z'⟩ | ⟨hk, e2'⟩
      · rfl
      · cases z
        rw [List.getElem?_set_self (by rw [R.len]; exact hl)] at e3
        rw [List.getElem?_set_ne (Ne.symm hk)] at e4
        have : v = u := by simpa using e3
        subst this
        exact absurd e4 (hf h1 k n e2' h2)
    · rcases set_get e2 with ⟨rfl, hl', z'⟩ | ⟨hk, e2'⟩
      · cases z'
        rw [List.getElem?_set_self (by rw [R.len]; exact hl')] at e4
        rw [List.getElem?_set_ne (Ne.symm hj)] at e3
        have : v = u := by simpa using e4
        subst this
        exact absurd e3 (hf h2 j m e1' h1)
      · rw [List.getElem?_set_ne (Ne.symm hj)] at e3
        rw [List.getElem?_set_ne (Ne.symm hk)] at e4
        exact R.ds j k m n u e1' e2' h1 h2 e3 e4
theorem Rel.store_d (R : Rel K G ρ F σ H) (i : Nat) (h : Df K F v x) : Rel K G (ρ.set i (some (.d x))) F (σ.set i (some v)) H :=
  R.store i ⟨v, rfl, h⟩ fun z => by cases z
/-- slots forgotten on either side -/
theorem Rel.weak (R : Rel K G ρ F σ H) {ρ' : En} {σ' : L2.St} (hl : σ'.length = ρ'.length) (w : ∀ (i : Nat) (l : Lc), ρ'[i]? = some (some l) → ρ[i]? = some (some l) ∧ σ'[i]? = σ[i]?) : Rel K G ρ' F σ' H := by
  refine ⟨R.fh, R.ff, R.fr, R.nw, R.ih, hl, fun i l e => ?_, fun i j l m v e1 e2 h1 h2 e3 e4 => ?_⟩
  · obtain ⟨a, b⟩ := w i l e; rw [b]; exact R.sl i l a
  · obtain ⟨a, b⟩ := w i l e1
    obtain ⟨a', b'⟩ := w j m e2
    rw [b] at e3; rw [b'] at e4
    exact R.ds i j l m v a a' h1 h2 e3 e4
theorem Rel.drop (R : Rel K G ρ F σ H) (i : Nat) : Rel K G (ρ.set i none) F σ H := by
  refine R.weak (by rw [List.length_set]; exact R.len) fun j l e => ?_
  rcases set_get e with ⟨_, _, z⟩ | ⟨_, e⟩
  · cases z
  · exact ⟨e, rfl⟩
/-- what stands in an own slot -/
theorem Rel.at_ (R : Rel K G ρ F σ H) (e : ρ[i]? = some (some l)) (h : l.own = true) : ∃ a, σ[i]? = some (some (.ref a)) ∧ At K G F H l a := (own_slot h).mp (R.sl i l e)
/-- a fresh thing that no slot holds is kept apart while other things are done -/
def Gm.pin (G : Gm) (p : Addr) (o : HO) : Gm := { G with H0 := fun b => if b = p then some o else G.H0 b }
theorem At.pin (h : At K G F H l a) (hp : a ≠ p) (o : HO) : At K (G.pin p o) F H l a := by
  refine ⟨h.nf, ?_, h.ob⟩
  have ow := h.ow
  cases e : l.tag with
  | none =>
    rw [e] at ow
    show (if a = p then some o else G.H0 a) = none
    rw [if_neg hp]; exact ow
  | some k => rw [e] at ow; exact ow
theorem Rel.pin (R : Rel K G ρ F σ H) (hF : F p = none) (hH : H p = some o) (h0 : G.H0 p = none) (hf : ∀ (j : Nat) (m : Lc), ρ[j]? = some (some m) → m.own = true → σ[j]? ≠ some (some (.ref p))) : Rel K (G.pin p o) ρ F σ H := by
  refine ⟨R.fh, R.ff, fun b u e hb => ?_, fun b h1 h2 => ?_, fun a ha => ⟨(R.ih a ha).1, ?_⟩, R.len, fun i l e => ?_, R.ds⟩
  · have e : (if b = p then some o else G.H0 b) = some u := e
    by_cases hbp : b = p
    · subst hbp; rw [if_pos rfl] at e; cases e; exact hH
    · rw [if_neg hbp] at e; exact R.fr b u e hb
  · show (if b = p then some o else G.H0 b) = none
    have hbp : b ≠ p := fun z => h1 (by rw [z]; exact hF)
    rw [if_neg hbp]; exact R.nw b h1 h2
  · show (if a = p then some o else G.H0 a) ≠ none
    have := (R.ih a ha).2
    by_cases hap : a = p
    · rw [if_pos hap]; simp
    · rw [if_neg hap]; exact this
  · have z := R.sl i l e
    cases hl : l.own with
    | true =>
      rw [own_slot hl] at z ⊢
      obtain ⟨c, e1, z⟩ := z
      exact ⟨c, e1, z.pin (fun q => hf i l e hl (by rw [e1, q])) o⟩
    | false =>
      rcases not_own hl with ⟨x, rfl⟩ | ⟨v, rfl⟩
      · exact z
      · exact z
theorem Rel.unpin (R : Rel K (G.pin p o) ρ F σ H) (h0 : G.H0 p = none) (f0 : G.F0 p = none) (hio : p ∉ G.io) :
    Rel K G ρ F σ H ∧ F p = none ∧ H p = some o ∧ ∀ (j : Nat) (m : Lc), ρ[j]? = some (some m) → m.own = true → σ[j]? ≠ some (some (.ref p)) := by
  have hp : (G.pin p o).H0 p = some o := if_pos rfl
  have nt : ∀ {l : Lc} {a : Addr}, At K (G.pin p o) F H l a → a ≠ p := fun {l a} z q => by
    subst q
    have ow := z.ow
    cases e : l.tag with
    | none => rw [e] at ow; have ow : (G.pin a o).H0 a = none := ow; rw [hp] at ow; cases ow
    | some k => rw [e] at ow; exact hio (List.mem_of_getElem? ow)
  have ne : ∀ (j : Nat) (m : Lc), ρ[j]? = some (some m) → m.own = true → σ[j]? ≠ some (some (.ref p)) := fun j m e hm z => by
    obtain ⟨a, e1, q⟩ := R.at_ e hm
    rw [z] at e1
    have : p = a := by simpa using e1
    exact nt q this.symm
  have fp : F p = none := by
    cases e : F p with
    | none => rfl
    | some u => have := R.nw p (by rw [e]; simp) f0; rw [hp] at this; cases this
  refine ⟨⟨R.fh, R.ff, fun b u e hb => ?_, fun b h1 h2 => ?_, fun a ha => ⟨(R.ih a ha).1, ?_⟩, R.len, fun i l e => ?_, R.ds⟩, fp, R.fr p o hp hio, ne⟩
  · refine R.fr b u ?_ hb
    show (if b = p then some o else G.H0 b) = some u
    rw [if_neg (fun z => by rw [z, h0] at e; cases e)]; exact e
  · have := R.nw b h1 h2
    have this : (if b = p then some o else G.H0 b) = none := this
    by_cases hbp : b = p
    · rw [hbp]; exact h0
    · rw [if_neg hbp] at this; exact this
  · have := (R.ih a ha).2
    have this : (if a = p then some o else G.H0 a) ≠ none := this
    have hap : a ≠ p := fun z => hio (by rw [← z]; exact ha)
    rw [if_neg hap] at this; exact this
  · have z := R.sl i l e
    cases hl : l.own with
    | true =>
      rw [own_slot hl] at z ⊢
      obtain ⟨c, e1, z⟩ := z
      have hc := nt z
      refine ⟨c, e1, z.nf, ?_, z.ob⟩
      have ow := z.ow
      cases q : l.tag with
      | none =>
        rw [q] at ow
        have ow : (if c = p then some o else G.H0 c) = none := ow
        rw [if_neg hc] at ow; exact ow
      | some k => rw [q] at ow; exact ow
    | false =>
      rcases not_own hl with ⟨x, rfl⟩ | ⟨v, rfl⟩
      · exact z
      · exact z
theorem ref_ne {b c : Addr} (h : σ[i]? = some (some (V.ref b))) (h2 : σ[j]? = some (some (V.ref c))) (n : σ[i]? ≠ σ[j]?) : b ≠ c := fun e => n (by rw [h, h2, e])
/-- an own thing is frozen -/
def Lc.pd : Lc → PD
  | .d x => x
  | .ls _ xs => .list xs
  | .dk _ kvs => .dict (kvs.map fun p => (keyD p.1, p.2))
  | _ => .none
def Lc.fz : Lc → Bool
  | .d _ => true
  | .ls none _ => true
  | .dk none _ => true
  | _ => false
theorem DKv.dfk {us : List (Key × V)} {kvs : List (Key × PD)} (h : DKv K F us kvs) : DfK K F us (kvs.map fun p => (keyD p.1, p.2)) := by
  induction us generalizing kvs with
  | nil => cases h; exact .nil
  | cons u us ih =>
    cases h with
    | cons a b =>
      obtain ⟨k, v⟩ := u
      obtain ⟨a1, a2⟩ := a
      rename_i q r
      obtain ⟨k', d⟩ := q
      have : k = k' := a1
      subst this
      exact .cons a2 (ih b)
/-- the object of an own thing, frozen at a: its data -/
theorem HoOk.df (ok : HoOk K F l o) (hz : l.fz = true) (e : H a = some o) (s : Same F H) : Df K H (.ref a) l.pd := by
  cases l with
  | d x => cases o <;> exact False.elim ok
  | sc v => cases o <;> exact False.elim ok
  | ls p xs =>
    cases o with
    | lst vs => exact .lst (.inl e) (DfA.mono s ok)
    | _ => exact False.elim ok
  | dk p xs =>
    cases o with
    | dK vs => exact .dk e ((DKv.mono s ok).dfk)
    | _ => exact False.elim ok
  | dt p xs => cases p <;> simp [Lc.fz] at hz
theorem upd_eq {H : Hp} {a : Addr} {o : HO} (e : H a = some o) : upd H a o = H := by
  funext b
  by_cases hb : b = a
  · subst hb; rw [upd_same, e]
  · rw [upd_ne hb]
/-- the frozen part takes in an own object that no other own slot holds -/
theorem Rel.freeze (R : Rel K G ρ F σ H) (nf : F a = none) (n0 : G.H0 a = none) (e : H a = some o) (hf : ∀ (j : Nat) (m : Lc), ρ[j]? = some (some m) → m.own = true → σ[j]? ≠ some (some (.ref a))) : Rel K G ρ (upd F a o) σ H ∧ Same F (upd F a o) := by
  have sf : Same F (upd F a o) := same_new nf o
  refine ⟨⟨fun b u q => ?_, R.ff.trans sf, R.fr, fun b h1 h2 => ?_, R.ih, R.len, fun j m q => ?_, R.ds⟩, sf⟩
  · by_cases hb : b = a
    · subst hb; rw [upd_same] at q; cases q; exact e
    · rw [upd_ne hb] at q; exact R.fh _ _ q
  · by_cases hb : b = a
    · subst hb; exact n0
    · rw [upd_ne hb] at h1; exact R.nw b h1 h2
  · have z := R.sl j m q
    cases hm : m.own with
    | true =>
      rw [own_slot hm] at z ⊢
      obtain ⟨c, e1, h1, h2, ob, h3, h4⟩ := z
      have hc : c ≠ a := fun q' => hf j m q hm (by rw [e1, q'])
      exact ⟨c, e1, by rw [upd_ne hc]; exact h1, h2, ob, h3, h4.mono sf⟩
    | false =>
      rcases not_own hm with ⟨x, rfl⟩ | ⟨v, rfl⟩
      · obtain ⟨v, e1, h1⟩ := z; exact ⟨v, e1, h1.mono sf⟩
      · obtain ⟨v, e1, h1⟩ := z; exact ⟨v, e1, h1.mono sf⟩
/-- a slot's own thing is frozen where it stands -/
theorem Rel.freeze_slot (R : Rel K G ρ F σ H) (e : ρ[i]? = some (some l)) (ho : l.own = true) (hz : l.fz = true) :
    ∃ F' a, Rel K G (ρ.set i (some (.d l.pd))) F' σ H ∧ Same F F' ∧ σ[i]? = some (some (.ref a)) ∧ Df K F' (.ref a) l.pd := by
  obtain ⟨a, es, nf, ow, ob, eo, ok⟩ := R.at_ e ho
  have n0 : G.H0 a = none := by
    cases l <;> first | (simp [Lc.own] at ho; done) | skip
    all_goals (rename_i p xs; cases p <;> first | exact ow | (simp [Lc.fz] at hz))
  have R1 : Rel K G (ρ.set i none) F σ H := R.drop i
  obtain ⟨R2, sf⟩ := R1.freeze nf n0 eo (fun j m q hm z => by
    rcases set_get q with ⟨_, _, w⟩ | ⟨hj, q⟩
    · cases w
    · exact hj (R.ds j i m l _ q e hm ho z es))
  have hd : Df K (upd F a ob) (.ref a) l.pd := ok.df hz upd_same sf
  have hi : i < ρ.length := (List.getElem?_eq_some_iff.mp e).1
  have hσ : i < σ.length := by rw [R.len]; exact hi
  have R3 := R2.store_d i hd
  have e1 : (ρ.set i none).set i (some (.d l.pd)) = ρ.set i (some (.d l.pd)) := by rw [List.set_set]
  have e2 : σ.set i (some (.ref a)) = σ := by
    apply List.ext_getElem?
    intro j
    by_cases hj : i = j
    · subst hj; rw [List.getElem?_set_self hσ, es]
    · rw [List.getElem?_set_ne hj]
  rw [e1, e2] at R3
  exact ⟨_, a, R3, sf, es, hd⟩
/-- an own thing is written -/
theorem Rel.write (R : Rel K G ρ F σ H) (e : ρ[i]? = some (some l)) (ho : l.own = true) (es : σ[i]? = some (some (.ref a))) (ok : HoOk K F m o) (ht : m.tag = l.tag) :
    Rel K G (ρ.set i (some m)) F σ (upd H a o) := by
  obtain ⟨a', es', nf, ow, ob, eo, _⟩ := R.at_ e ho
  rw [es] at es'
  have : a = a' := by simpa using es'
  subst this
  have hi : i < ρ.length := (List.getElem?_eq_some_iff.mp e).1
  have ne : ∀ (j : Nat) (n : Lc), ρ[j]? = some (some n) → n.own = true → j ≠ i → σ[j]? ≠ some (some (.ref a)) := fun j n q hn hj z => hj (R.ds j i n l _ q e hn ho z es)
  refine ⟨fun b u q => ?_, R.ff, fun b u q hb => ?_, R.nw, fun b hb => ?_, by rw [List.length_set]; exact R.len, fun j n q => ?_, fun j k n r u q1 q2 h1 h2 q3 q4 => ?_⟩
  · rw [upd_ne (ne_of_none q nf)]; exact R.fh _ _ q
  · have : b ≠ a := by
      rintro rfl
      have ow' : OwnP G l.tag b := ow
      cases ht' : l.tag with
      | none => rw [ht'] at ow'; have ow' : G.H0 b = none := ow'; rw [q] at ow'; cases ow'
      | some k => rw [ht'] at ow'; exact hb (List.mem_of_getElem? ow')
    rw [upd_ne this]; exact R.fr b u q hb
  · refine ⟨?_, (R.ih b hb).2⟩
    by_cases hb' : b = a
    · subst hb'; rw [upd_same]; simp
    · rw [upd_ne hb']; exact (R.ih b hb).1
  · rcases set_get q with ⟨rfl, _, z⟩ | ⟨hj, q⟩
    · cases z
      rw [own_slot ok.own]
      exact ⟨a, es, nf, by rw [ht]; exact ow, o, upd_same, ok⟩
    · have z := R.sl j n q
      cases hn : n.own with
      | true =>
        rw [own_slot hn] at z ⊢
        obtain ⟨c, e1, h1, h2, u, h3, h4⟩ := z
        have hc : c ≠ a := fun w => ne j n q hn hj (by rw [e1, w])
        exact ⟨c, e1, h1, h2, u, by rw [upd_ne hc]; exact h3, h4⟩
      | false =>
        rcases not_own hn with ⟨x, rfl⟩ | ⟨v, rfl⟩
        · exact z
        · exact z
  · have old : ∀ {j : Nat} {n : Lc}, (ρ.set i (some m))[j]? = some (some n) → n.own = true → ∃ n', ρ[j]? = some (some n') ∧ n'.own = true := fun {j n} q hn => by
      rcases set_get q with ⟨rfl, _, z⟩ | ⟨hj, q⟩
      · exact ⟨l, e, ho⟩
      · exact ⟨n, q, hn⟩
    obtain ⟨n', q1', h1'⟩ := old q1 h1
    obtain ⟨r', q2', h2'⟩ := old q2 h2
    exact R.ds j k n' r' u q1' q2' h1' h2' q3 q4
end
end DL
/-! The data layer, part b: readings over data, and the rules of expressions. -/
namespace DL
open PySem L2

theorem peImp {X : Cx} {e : Expr} {t t' : TE} (h : PE X e t) (w : ∀ σ H Q, t' σ H Q → t σ H Q) : PE X e t' := ⟨fun pins s σ H Q I q => h.run pins s σ H Q I (w _ _ _ q)⟩
theorem ptImp {X : Cx} {e : Expr} {t t' : TT} (h : PT X e t) (w : ∀ σ H Q, t' σ H Q → t σ H Q) : PT X e t' := ⟨fun pins s σ H Q I q => h.run pins s σ H Q I (w _ _ _ q)⟩
theorem pwImp {X : Cx} {e : Expr} {t t' : TT} (h : PW X e t) (w : ∀ σ H Q, t' σ H Q → t σ H Q) : PW X e t' := ⟨fun wh pins s σ H Q I q => h.run wh pins s σ H Q I (w _ _ _ q)⟩
theorem paImp {X : Cx} {e : List Expr} {t t' : TA} (h : PA X e t) (w : ∀ σ H Q, t' σ H Q → t σ H Q) : PA X e t' := ⟨fun pos pins s σ H Q I q => h.run pos pins s σ H Q I (w _ _ _ q)⟩
theorem psImp {X : Cx} {e : Stmt} {t t' : TS} (h : PS X e t) (w : ∀ D σ H, t' D σ H → t D σ H) : PS X e t' := ⟨fun pins s σ H D I q => h.run pins s σ H D I (w _ _ _ q)⟩
theorem pssImp {X : Cx} {e : List Stmt} {t t' : TS} (h : PSs X e t) (w : ∀ D σ H, t' D σ H → t D σ H) : PSs X e t' := ⟨fun pins s σ H D I q => h.run pins s σ H D I (w _ _ _ q)⟩
theorem pgImp {X : Cx} {e : Expr} {t t' : TG} (h : PG X e t) (w : ∀ v σ H Q, t' v σ H Q → t v σ H Q) : PG X e t' := ⟨fun pins s σ H v u Q I r q => h.run pins s σ H v u Q I r (w _ _ _ _ q)⟩

/-! ### readings over data -/
abbrev TD := En → (PD → En → Prop) → Prop
abbrev TF := En → (Lc → En → Prop) → Prop
abbrev TTd := En → (Bool → En → Prop) → Prop
/-- an operand: an expression, or the thing in a slot, looked at when the operation is done -/
inductive Op1 where
  | e (t : TD)
  | s (i : Nat)
inductive AV where
  | v (x : PD)
  | s (i : Nat)
abbrev TAd := En → (List AV → En → Prop) → Prop
def Op1.run : Op1 → En → (AV → En → Prop) → Prop
  | .e t, ρ, Q => t ρ fun x ρ' => Q (.v x) ρ'
  | .s i, ρ, Q => match ρ[i]? with
    | some (some _) => Q (.s i) ρ
    | _ => False

section
variable (K : PySem.W.Frag)
def RsOk (G : Gm) (F H : Hp) (ρ : En) (σ : L2.St) : Lc → V → Prop
  | .d x, v => Df K F v x
  | .sc xs, v => ScOk K F xs v
  | l, v => ∃ a, v = .ref a ∧ l.tag = none ∧ At K G F H l a ∧ ∀ (j : Nat) (m : Lc), ρ[j]? = some (some m) → m.own = true → σ[j]? ≠ some (some (.ref a))
def AvOk (F : Hp) (σ : L2.St) : AV → V → Prop
  | .v x, v => Df K F v x
  | .s i, v => σ[i]? = some (some v)
inductive AvA (F : Hp) (σ : L2.St) : List AV → List V → Prop
  | nil : AvA F σ [] []
  | cons {a : AV} {as : List AV} {v : V} {vs : List V} : AvOk K F σ a v → AvA F σ as vs → AvA F σ (a :: as) (v :: vs)
def liftD (t : TD) : TE := fun σ H Q => ∃ G ρ F Q', Rel K G ρ F σ H ∧ t ρ Q' ∧ ∀ x ρ' v H' F', Q' x ρ' → Rel K G ρ' F' σ H' → Same F F' → Df K F' v x → Q v H'
def liftF (t : TF) : TE := fun σ H Q => ∃ G ρ F Q', Rel K G ρ F σ H ∧ t ρ Q' ∧ ∀ l ρ' v H' F', Q' l ρ' → Rel K G ρ' F' σ H' → Same F F' → RsOk K G F' H' ρ' σ l v → Q v H'
def liftT (t : TTd) : TT := fun σ H Q => ∃ G ρ F Q', Rel K G ρ F σ H ∧ t ρ Q' ∧ ∀ b ρ' H' F', Q' b ρ' → Rel K G ρ' F' σ H' → Same F F' → Q b H'
def liftO (o : Op1) : TE := fun σ H Q => ∃ G ρ F Q', Rel K G ρ F σ H ∧ o.run ρ Q' ∧ ∀ a ρ' v H' F', Q' a ρ' → Rel K G ρ' F' σ H' → Same F F' → AvOk K F' σ a v → Q v H'
def liftA (n : Nat) (t : TAd) : TA := fun σ H Q => ∃ G ρ F Q', Rel K G ρ F σ H ∧ t ρ Q' ∧ ∀ as ρ' vs H' F', Q' as ρ' → as.length = n → Rel K G ρ' F' σ H' → Same F F' → AvA K F' σ as vs → Q vs H'
end
structure LD (X : Cx) (e : Expr) (t : TD) : Prop where
  p : PE X e (liftD X.K t)
structure LF (X : Cx) (e : Expr) (t : TF) : Prop where
  p : PE X e (liftF X.K t)
structure LT (X : Cx) (e : Expr) (t : TTd) : Prop where
  p : PT X e (liftT X.K t)
structure LW (X : Cx) (e : Expr) (t : TTd) : Prop where
  p : PW X e (liftT X.K t)
structure LO (X : Cx) (e : Expr) (t : Op1) : Prop where
  p : PE X e (liftO X.K t)
structure LA (X : Cx) (es : List Expr) (t : TAd) : Prop where
  p : PA X es (liftA X.K es.length t)

section
variable {G : Gm} {X : Cx} {K : PySem.W.Frag} {F F' H H' : Hp} {ρ : En} {σ : L2.St} {v : V} {x : PD}

/-! ### what an operand stands for, at the operation -/
/-- the thing itself may be an own one (known to H alone), what lies in it is frozen -/
inductive Dr (K : PySem.W.Frag) (F H : Hp) : V → PD → Prop
  | f {v : V} {x : PD} : Df K F v x → Dr K F H v x
  | l {a : Addr} {vs : List V} {xs : List PD} : H a = some (.lst vs) → DfA K F vs xs → Dr K F H (.ref a) (.list xs)
  | k {a : Addr} {us : List (Key × V)} {kvs : List (Key × PD)} : H a = some (.dK us) → DKv K F us kvs → Dr K F H (.ref a) (.dict (kvs.map fun p => (keyD p.1, p.2)))
def res1 (ρ : En) : AV → (PD → Prop) → Prop
  | .v x, k => k x
  | .s i, k => match ρ[i]? with
    | some (some (.d x)) => k x
    | some (some (.ls _ xs)) => k (.list xs)
    | some (some (.dk _ kvs)) => k (.dict (kvs.map fun p => (keyD p.1, p.2)))
    | _ => False
/-- frozen ones alone -/
def resF (ρ : En) : AV → (PD → Prop) → Prop
  | .v x, k => k x
  | .s i, k => match ρ[i]? with
    | some (some (.d x)) => k x
    | _ => False
def resA (ρ : En) : List AV → (List PD → Prop) → Prop
  | [], k => k []
  | a :: r, k => res1 ρ a fun x => resA ρ r fun xs => k (x :: xs)
def resFA (ρ : En) : List AV → (List PD → Prop) → Prop
  | [], k => k []
  | a :: r, k => resF ρ a fun x => resFA ρ r fun xs => k (x :: xs)
inductive DrA (K : PySem.W.Frag) (F H : Hp) : List V → List PD → Prop
  | nil : DrA K F H [] []
  | cons {v : V} {vs : List V} {d : PD} {ds : List PD} : Dr K F H v d → DrA K F H vs ds → DrA K F H (v :: vs) (d :: ds)

theorem AvOk.mono {a : AV} (s : Same F F') (h : AvOk K F σ a v) : AvOk K F' σ a v := by
  cases a with
  | v x => exact Df.mono s h
  | s i => exact h
theorem AvA.mono {as : List AV} {vs : List V} (s : Same F F') (h : AvA K F σ as vs) : AvA K F' σ as vs := by
  induction h with
  | nil => exact .nil
  | cons a _ ih => exact .cons (a.mono s) ih
theorem res1_dr (R : Rel K G ρ F σ H) {a : AV} (h : AvOk K F σ a v) {k : PD → Prop} (r : res1 ρ a k) : ∃ x, k x ∧ Dr K F H v x := by
  cases a with
  | v x => exact ⟨x, r, .f h⟩
  | s i =>
    dsimp only [res1] at r
    have h : σ[i]? = some (some v) := h
    split at r
    · rename_i x e
      obtain ⟨u, e1, d⟩ := R.sl i _ e
      rw [h] at e1
      have : v = u := by simpa using e1
      subst this
      exact ⟨x, r, .f d⟩
    · rename_i p xs e
      obtain ⟨b, e1, nf, ow, o, eo, ok⟩ := R.at_ e rfl
      rw [h] at e1
      have : v = .ref b := by simpa using e1
      subst this
      cases o <;> first | exact False.elim ok | exact ⟨_, r, .l eo ok⟩
    · rename_i p xs e
      obtain ⟨b, e1, nf, ow, o, eo, ok⟩ := R.at_ e rfl
      rw [h] at e1
      have : v = .ref b := by simpa using e1
      subst this
      cases o <;> first | exact False.elim ok | exact ⟨_, r, .k eo ok⟩
    · exact False.elim r
theorem resF_df (R : Rel K G ρ F σ H) {a : AV} (h : AvOk K F σ a v) {k : PD → Prop} (r : resF ρ a k) : ∃ x, k x ∧ Df K F v x := by
  cases a with
  | v x => exact ⟨x, r, h⟩
  | s i =>
    dsimp only [resF] at r
    have h : σ[i]? = some (some v) := h
    split at r
    · rename_i x e
      obtain ⟨u, e1, d⟩ := R.sl i _ e
      rw [h] at e1
      have : v = u := by simpa using e1
      subst this
      exact ⟨x, r, d⟩
    · exact False.elim r
theorem resA_dr (R : Rel K G ρ F σ H) : ∀ {as : List AV} {vs : List V}, AvA K F σ as vs → ∀ {k : List PD → Prop}, resA ρ as k → ∃ xs, k xs ∧ DrA K F H vs xs
  | _, _, .nil, k, r => ⟨[], r, .nil⟩
  | _, _, .cons a t, k, r => by
    obtain ⟨x, r1, d⟩ := res1_dr R a r
    obtain ⟨xs, r2, ds⟩ := resA_dr R t r1
    exact ⟨x :: xs, r2, .cons d ds⟩
theorem resFA_df (R : Rel K G ρ F σ H) : ∀ {as : List AV} {vs : List V}, AvA K F σ as vs → ∀ {k : List PD → Prop}, resFA ρ as k → ∃ xs, k xs ∧ DfA K F vs xs
  | _, _, .nil, k, r => ⟨[], r, .nil⟩
  | _, _, .cons a t, k, r => by
    obtain ⟨x, r1, d⟩ := resF_df R a r
    obtain ⟨xs, r2, ds⟩ := resFA_df R t r1
    exact ⟨x :: xs, r2, .cons d ds⟩
theorem AvA.length {as : List AV} {vs : List V} (h : AvA K F σ as vs) : as.length = vs.length := by
  induction h with
  | nil => rfl
  | cons _ _ ih => rw [List.length_cons, List.length_cons, ih]
theorem Dr.df (s : Same F H) (h : Dr K F H v x) : Df K H v x := by
  cases h with
  | f h => exact h.mono s
  | l e h => exact .lst (.inl e) (h.mono s)
  | k e h => exact .dk e ((DKv.mono s h).dfk)
theorem Dr.int {i : Int} (h : Dr K F H v (.int i)) : v = .int i := by cases h with | f h => cases h; rfl
theorem Dr.str {i : Str} (h : Dr K F H v (.str i)) : v = .str i := by cases h with | f h => cases h; rfl
theorem Dr.bl {i : Bool} (h : Dr K F H v (.bool i)) : v = .bl i := by cases h with | f h => cases h; rfl
theorem Dr.non (h : Dr K F H v .none) : v = .non := by cases h with | f h => cases h; rfl
theorem Dr.tup {xs : List PD} (s : Same F H) (h : Dr K F H v (.tuple xs)) : ∃ a vs, v = .ref a ∧ SqT K H a vs ∧ DfA K F vs xs := by
  cases h with
  | f h => cases h with | tup q d => exact ⟨_, _, rfl, seqT s q, d⟩
theorem Dr.lst {xs : List PD} (s : Same F H) (h : Dr K F H v (.list xs)) : ∃ a vs, v = .ref a ∧ Rd H a (.lst vs) ∧ DfA K F vs xs := by
  cases h with
  | f h => cases h with | lst q d => exact ⟨_, _, rfl, rdM s q, d⟩
  | l e d => exact ⟨_, _, rfl, .inl e, d⟩

/-! ### coercions -/
def dFz (t : TF) : TD := fun ρ Q => t ρ fun l ρ' => if l.fz = true then Q l.pd ρ' else False
def fD (t : TD) : TF := fun ρ Q => t ρ fun x ρ' => Q (.d x) ρ'
theorem RsOk.freeze {l : Lc} (R : Rel K G ρ F σ H) (h : RsOk K G F H ρ σ l v) (hz : l.fz = true) : ∃ F', Rel K G ρ F' σ H ∧ Same F F' ∧ Df K F' v l.pd := by
  cases l with
  | d x => exact ⟨F, R, Same.refl _, h⟩
  | sc u => simp [Lc.fz] at hz
  | ls p xs =>
    obtain ⟨a, rfl, ht, ⟨nf, ow, o, eo, ok⟩, hf⟩ := h
    have ht : p = none := ht
    subst ht
    obtain ⟨R', s⟩ := R.freeze nf ow eo hf
    exact ⟨_, R', s, ok.df hz upd_same s⟩
  | dk p xs =>
    obtain ⟨a, rfl, ht, ⟨nf, ow, o, eo, ok⟩, hf⟩ := h
    have ht : p = none := ht
    subst ht
    obtain ⟨R', s⟩ := R.freeze nf ow eo hf
    exact ⟨_, R', s, ok.df hz upd_same s⟩
  | dt p xs => cases p <;> simp [Lc.fz] at hz
variable {e e2 : Expr} {es : List Expr} {pos : Pos}
theorem LD.ofF {t : TF} (h : LF X e t) : LD X e (dFz t) := ⟨peImp h.p fun σ H Q ⟨G, ρ, F, Q', R, q, c⟩ => ⟨G, ρ, F, _, R, q, fun l ρ' v H' F' h1 R1 s1 r1 => by
  split at h1
  · rename_i hz
    obtain ⟨F2, R2, s2, d⟩ := r1.freeze R1 hz
    exact c _ _ v H' F2 h1 R2 (s1.trans s2) d
  · exact False.elim h1⟩⟩
theorem LF.ofD {t : TD} (h : LD X e t) : LF X e (fD t) := ⟨peImp h.p fun σ H Q ⟨G, ρ, F, Q', R, q, c⟩ => ⟨G, ρ, F, _, R, q, fun x ρ' v H' F' h1 R1 s1 r1 => c _ _ v H' F' h1 R1 s1 r1⟩⟩
theorem LO.ofD {t : TD} (h : LD X e t) : LO X e (.e t) := ⟨peImp h.p fun σ H Q ⟨G, ρ, F, Q', R, q, c⟩ => ⟨G, ρ, F, _, R, q, fun x ρ' v H' F' h1 R1 s1 r1 => c _ _ v H' F' h1 R1 s1 r1⟩⟩

/-! ### names, constants -/
def dC (x : PD) : TD := fun ρ Q => Q x ρ
def dVar (i : Nat) : TD := fun ρ Q => match ρ[i]? with
  | some (some (.d x)) => Q x ρ
  | some (some l) => if l.fz = true then Q l.pd (ρ.set i (some (.d l.pd))) else False
  | _ => False
theorem LD.int {i : Int} {j : Nat} : LD X (.Constant (.int i) j pos) (dC (.int i)) := ⟨peImp pe_int fun σ H Q ⟨G, ρ, F, Q', R, q, c⟩ => c _ _ _ H F q R (Same.refl _) (.int i)⟩
theorem LD.str {i : Str} {j : Nat} : LD X (.Constant (.str i) j pos) (dC (.str i)) := ⟨peImp pe_str fun σ H Q ⟨G, ρ, F, Q', R, q, c⟩ => c _ _ _ H F q R (Same.refl _) (.str i)⟩
theorem LD.bl {i : Bool} {j : Nat} : LD X (.Constant (.bool i) j pos) (dC (.bool i)) := ⟨peImp pe_bl fun σ H Q ⟨G, ρ, F, Q', R, q, c⟩ => c _ _ _ H F q R (Same.refl _) (.bl i)⟩
theorem LD.non {j : Nat} : LD X (.Constant .none j pos) (dC .none) := ⟨peImp pe_non fun σ H Q ⟨G, ρ, F, Q', R, q, c⟩ => c _ _ _ H F q R (Same.refl _) .non⟩
theorem LD.glob {x : Str} {v : V} {u : Value} {d : PD} (hg : Gl X x) (hm : X.mg x = some u) (r : RelV v u) (h : ∀ F, Df X.K F v d) (hd : (x == ("__debug__" : Str)) = false := by decide) : LD X (.Name x pos) (dC d) :=
  ⟨peImp (pe_glob hg hm r hd) fun σ H Q ⟨G, ρ, F, Q', R, q, c⟩ => c _ _ _ H F q R (Same.refl _) (h F)⟩
theorem LD.var (i : Nat) (h : PE X e (tVar i)) : LD X e (dVar i) := ⟨peImp h fun σ H Q ⟨G, ρ, F, Q', R, q, c⟩ => by
  unfold dVar at q
  split at q
  · rename_i x er
    obtain ⟨v, e1, d⟩ := R.sl i _ er
    exact ⟨v, e1, c _ _ v H F q R (Same.refl _) d⟩
  · rename_i l nd er
    split at q
    · rename_i hz
      have ho : l.own = true := by
        cases l with
        | d x => exact absurd rfl (nd x)
        | sc u => simp [Lc.fz] at hz
        | _ => rfl
      obtain ⟨F', a, R', s, es, d⟩ := R.freeze_slot er ho hz
      exact ⟨_, es, c _ _ _ H F' q R' s d⟩
    · exact False.elim q
  · exact False.elim q⟩
theorem LO.s (i : Nat) (h : PE X e (tVar i)) : LO X e (.s i) := ⟨peImp h fun σ H Q ⟨G, ρ, F, Q', R, q, c⟩ => by
  dsimp only [Op1.run] at q
  split at q
  · rename_i l er
    obtain ⟨v, e1⟩ := (R.sl i _ er).some
    exact ⟨v, e1, c _ _ v H F q R (Same.refl _) e1⟩
  · exact False.elim q⟩

/-! ### argument lists -/
def aNil : TAd := fun ρ Q => Q [] ρ
def aCons (o : Op1) (r : TAd) : TAd := fun ρ Q => o.run ρ fun a ρ1 => r ρ1 fun as ρ2 => Q (a :: as) ρ2
theorem LA.nil : LA X [] aNil := ⟨paImp pa_nil fun σ H Q ⟨G, ρ, F, Q', R, q, c⟩ => c _ _ _ H F q rfl R (Same.refl _) .nil⟩
theorem LA.cons {o : Op1} {r : TAd} (h : LO X e o) (hr : LA X es r) (hs : starEach (e :: es) X.env = (false, eval e X.env) :: starEach es X.env := by rfl) : LA X (e :: es) (aCons o r) :=
  ⟨paImp (pa_cons h.p hr.p hs) fun σ H Q ⟨G, ρ, F, Q', R, q, c⟩ => ⟨G, ρ, F, _, R, q, fun a ρ1 v H1 F1 h1 R1 s1 a1 => ⟨G, ρ1, F1, _, R1, h1, fun as ρ2 vs H2 F2 h2 hl R2 s2 a2 =>
    c _ _ _ H2 F2 h2 (by rw [List.length_cons, List.length_cons, hl]) R2 (s1.trans s2) (.cons (a1.mono s2) a2)⟩⟩⟩

/-! ### displays -/
def dTup (t : TAd) : TD := fun ρ Q => t ρ fun as ρ1 => resFA ρ1 as fun xs => Q (.tuple xs) ρ1
def fLst (t : TAd) : TF := fun ρ Q => t ρ fun as ρ1 => resFA ρ1 as fun xs => Q (.ls none xs) ρ1
theorem LD.tup {t : TAd} {k : Nat} (h : LA X es t) (hn : es.length ≤ 100000 := by decide) : LD X (.Tuple es k pos) (dTup t) := ⟨peImp (pe_tup h.p) fun σ H Q ⟨G, ρ, F, Q', R, q, c⟩ => ⟨G, ρ, F, _, R, q, fun as ρ1 vs H1 F1 h1 hl R1 s1 a1 => by
  obtain ⟨xs, h2, d⟩ := resFA_df R1 a1 h1
  refine ⟨Nat.le_trans (by rw [← a1.length, hl]; exact hn) (by decide), fun p hp => ?_⟩
  have g := Grow.frozen R1.fh hp (.tup vs)
  exact c _ _ _ _ _ h2 (R1.grow g) (s1.trans g.ff) (.tup (SqT.of upd_same) (d.mono g.ff))⟩⟩
theorem fresh_ok {l : Lc} {p : Addr} {o : HO} (R : Rel K G ρ F σ H) (hp : H p = none) (ok : HoOk K F l o) (ht : l.tag = none) : Rel K G ρ F σ (upd H p o) ∧ RsOk K G F (upd H p o) ρ σ l (.ref p) := by
  refine ⟨R.grow (Grow.owned R.fh hp o), ?_⟩
  have h : ∃ a, V.ref p = .ref a ∧ l.tag = none ∧ At K G F (upd H p o) l a ∧ ∀ (j : Nat) (m : Lc), ρ[j]? = some (some m) → m.own = true → σ[j]? ≠ some (some (.ref a)) := by
    refine ⟨p, rfl, ht, ⟨R.fh.free hp, ?_, o, upd_same, ok⟩, fun j m e hm z => ?_⟩
    · rw [ht]; exact R.h0 hp
    · obtain ⟨a, e1, nf, ow, ob, eo, _⟩ := R.at_ e hm
      rw [z] at e1
      have : p = a := by simpa using e1
      subst this
      rw [hp] at eo; cases eo
  cases l with
  | d x => cases o <;> exact False.elim ok
  | sc u => cases o <;> exact False.elim ok
  | _ => exact h
theorem LF.lst {t : TAd} (h : LA X es t) (hn : es.length ≤ 100000 := by decide) : LF X (.List es pos) (fLst t) := ⟨peImp (pe_lst h.p) fun σ H Q ⟨G, ρ, F, Q', R, q, c⟩ => ⟨G, ρ, F, _, R, q, fun as ρ1 vs H1 F1 h1 hl R1 s1 a1 => by
  obtain ⟨xs, h2, d⟩ := resFA_df R1 a1 h1
  refine ⟨Nat.le_trans (by rw [← a1.length, hl]; exact hn) (by decide), fun p hp => ?_⟩
  obtain ⟨R2, k⟩ := fresh_ok (l := .ls none xs) (o := .lst vs) R1 hp d rfl
  exact c _ _ _ _ _ h2 R2 s1 k⟩⟩

/-! ### operators of two places, by data -/
abbrev F2 := PD → PD → (PD → Prop) → Prop
def Op2Ok (K : PySem.W.Frag) (f : F2) (r : R2) : Prop := ∀ (F H : Hp) (vx vy : V) (x y : PD) (k : PD → Prop) (Q : VK), Same F H → Dr K F H vx x → Dr K F H vy y → f x y k →
  (∀ z v F' H', k z → Grow F H F' H' → Df K F' v z → Q v H') → r vx vy H Q
def dBin (f : F2) (a b : Op1) : TD := fun ρ Q => a.run ρ fun x ρ1 => b.run ρ1 fun y ρ2 => res1 ρ2 x fun x' => res1 ρ2 y fun y' => f x' y' fun z => Q z ρ2
variable {f : F2} {r : R2} {oa ob oc : Op1}
theorem tOp_of (hf : Op2Ok K f r) {Q : VK} (h : liftD K (dBin f oa ob) σ H Q) : tOp r (liftO K oa) (liftO K ob) σ H Q := by
  obtain ⟨G, ρ, F, Q', R, q, c⟩ := h
  refine ⟨G, ρ, F, _, R, q, fun a ρ1 vx H1 F1 h1 R1 s1 ax => ⟨G, ρ1, F1, _, R1, h1, fun b ρ2 vy H2 F2 h2 R2 s2 ay => ?_⟩⟩
  obtain ⟨x', h3, dx⟩ := res1_dr R2 (ax.mono s2) h2
  obtain ⟨y', h4, dy⟩ := res1_dr R2 ay h3
  exact hf F2 H2 vx vy x' y' _ Q R2.fh dx dy h4 fun z v F' H' kz g d => c _ _ _ _ _ kz (R2.grow g) ((s1.trans s2).trans g.ff) d
theorem LD.bin {op : Operator} (ho : OpR X (binaryOp op) r) (hf : Op2Ok X.K f r) (ha : LO X e oa) (hb : LO X e2 ob) : LD X (.BinOp e op e2 pos) (dBin f oa ob) := ⟨peImp (pe_op ho ha.p hb.p) fun _ _ _ h => tOp_of hf h⟩
theorem LD.cmp {op : CmpOp} (ho : OpR X (compareOp op) r) (hf : Op2Ok X.K f r) (ha : LO X e oa) (hb : LO X e2 ob) (hm : behindInMarks op e2 = false) : LD X (.Compare e [op] [e2] pos) (dBin f oa ob) := ⟨peImp (pe_cmpR ho ha.p hb.p hm) fun _ _ _ h => tOp_of hf h⟩
def bAdd : F2
  | .int i, .int j, k => k (.int (i + j))
  | .list xs, .list ys, k => xs.length + ys.length ≤ sizeLine ∧ k (.list (xs ++ ys))
  | .tuple xs, .tuple ys, k => xs ≠ [] ∧ xs.length + ys.length ≤ sizeLine ∧ k (.tuple (xs ++ ys))
  | .str x, .str y, k => x.length + y.length ≤ sizeLine ∧ k (.str (x ++ y))
  | _, _, _ => False
def bSub : F2
  | .int i, .int j, k => k (.int (i - j))
  | _, _, _ => False
/-- * of ints; a list by an int -/
def bMul : F2
  | .int i, .int j, k => IntMulOk i j ∧ k (.int (i * j))
  | .list xs, .int j, k => (0 ≤ j ∧ j < 2 ^ 60 ∧ xs.length * j.toNat ≤ sizeLine) ∧ k (.list (List.replicate j.toNat xs).flatten)
  | _, _, _ => False
/-- the divisor above 0 -/
def bFdiv : F2
  | .int i, .int j, k => CDivW i j ∧ k (.int (i / j))
  | _, _, _ => False
def bFdivN : F2
  | .int i, .int j, k => (j ≠ 0 ∧ j.natAbs.log2 < 9000) ∧ k (.int (i.fdiv j))
  | _, _, _ => False
def bMod : F2
  | .int i, .int j, k => 0 < j ∧ k (.int (i % j))
  | _, _, _ => False
def bModN : F2
  | .int i, .int j, k => j ≠ 0 ∧ k (.int (i.fmod j))
  | _, _, _ => False
def CPowW (i j : Int) : Prop := 0 ≤ j ∧ (Builtin.Int.intBits i : Int) * j ≤ 2 ^ 27
def bPow : F2
  | .int i, .int j, k => CPowW i j ∧ k (.int (i ^ j.toNat))
  | _, _, _ => False
def bShl : F2
  | .int i, .int j, k => CPow i j ∧ k (.int (i * 2 ^ j.toNat))
  | _, _, _ => False
end
end DL
/-! The data layer, part c: the operators' rules by data. -/
namespace DL
open PySem L2 PyProof.Rows

section
variable {X : Cx} {K : PySem.W.Frag} {F H : Hp}

/-! ### lists that may be the script's own -/
theorem rd_list {pins : List (Addr × Obj)} {σ : L2.St} {s : Shared} {l : Addr} {xs : List V} (I : Inv X pins σ H s) (h : Rd H l (.lst xs)) :
    xs.length ≤ sizeLine ∧ ∃ (its : List Value) (n : Nat), Vals xs its ∧ xs.length = its.length ∧ s.heap.get? l = some { cls := .type "list", data := .seq its.toArray n } := by
  have q : ObjOk X.prog X.w H s.heap l (.lst xs) := h.ok I.hok
  obtain ⟨z, its, n, r, e⟩ := q
  exact ⟨z, its, n, r, r.length, e⟩
theorem rdSq {l : Addr} {xs : List V} (h : Rd H l (.lst xs)) : SqL K H l xs := .inl h
def rCatD : R2 := fun x y H Q => ∃ l b xs zs, x = .ref l ∧ y = .ref b ∧ Rd H l (.lst xs) ∧ Rd H b (.lst zs) ∧ xs.length + zs.length ≤ sizeLine ∧ ∀ p, H p = none → Q (.ref p) (upd H p (.lst (xs ++ zs)))
theorem op_catD : OpR X (binaryOp .Add) rCatD := by
  intro pins s σ H x y v u Q I rx ry ⟨l, b, xs, zs, ex, ey, hx, hy, hz, q⟩
  subst ex ey
  cases rx; cases ry
  obtain ⟨z, is1, n, r, hl, e⟩ := rd_list I hx
  obtain ⟨z2, is2, n2, r2, hl2, e2⟩ := rd_list I hy
  have ea : is1.toArray ++ is2.toArray = (is1 ++ is2).toArray := by simp
  refine PySem.P.add_list e e2 ?_ (by simp only [List.size_toArray]; omega)
  simp only [ea]
  refine ⟨.ref _, _, I.lnew (t' := s.toks) (r.append r2) ?_, rfl, q _ I.fresh⟩
  simp only [List.length_append]; exact hz

/-! ### + -/
def rAddD (K : PySem.W.Frag) : R2 := fun x y H Q => rI0 (fun i j => .int (i + j)) x y H Q ∨ rCatD x y H Q ∨ rCatT K x y H Q ∨ (∃ i j, x = .str i ∧ y = .str j ∧ i.length + j.length ≤ sizeLine ∧ Q (.str (i ++ j)) H)
theorem op_addD : OpR X (binaryOp .Add) (rAddD X.K) := op_add.or (op_catD.or (op_catT.or op_add_str))
theorem ok_add : Op2Ok K bAdd (rAddD K) := by
  intro F H vx vy x y k Q s dx dy h c
  unfold bAdd at h
  split at h
  · rename_i i j
    rw [dx.int, dy.int]
    exact .inl ⟨_, _, rfl, rfl, c _ _ F H h (Grow.refl s) (.int _)⟩
  · obtain ⟨a, vs, rfl, q, d⟩ := dx.lst s
    obtain ⟨b, us, rfl, q2, d2⟩ := dy.lst s
    refine .inr (.inl ⟨a, b, vs, us, rfl, rfl, q, q2, by rw [d.length, d2.length]; exact h.1, fun p hp => ?_⟩)
    have g := Grow.frozen s hp (.lst (vs ++ us))
    exact c _ _ _ _ h.2 g (.lst (.inl upd_same) ((d.append d2).mono g.ff))
  · obtain ⟨a, vs, rfl, q, d⟩ := dx.tup s
    obtain ⟨b, us, rfl, q2, d2⟩ := dy.tup s
    obtain ⟨h1, h2, h3⟩ := h
    have ne : vs ≠ [] := fun z => h1 (by have := d.length; rw [z] at this; exact List.length_eq_zero_iff.mp this.symm)
    refine .inr (.inr (.inl ⟨a, b, vs, us, rfl, rfl, q, q2, ne, by rw [d.length, d2.length]; exact h2, ?_, ?_⟩))
    · intro e
      have : us = [] := e
      subst this
      cases d2
      rw [List.append_nil] at h3
      cases dx with
      | f dx => exact c _ _ F H h3 (Grow.refl s) dx
    · intro _ p hp
      have g := Grow.frozen s hp (.tup (vs ++ us))
      exact c _ _ _ _ h3 g (.tup (SqT.of upd_same) ((d.append d2).mono g.ff))
  · rw [dx.str, dy.str]
    exact .inr (.inr (.inr ⟨_, _, rfl, rfl, h.1, c _ _ F H h.2 (Grow.refl s) (.str _)⟩))
  · exact False.elim h
/-! ### - * // % ** << -/
theorem ok_sub : Op2Ok K bSub (rI0 fun i j => .int (i - j)) := by
  intro F H vx vy x y k Q s dx dy h c
  unfold bSub at h
  split at h
  · rw [dx.int, dy.int]
    exact ⟨_, _, rfl, rfl, c _ _ F H h (Grow.refl s) (.int _)⟩
  · exact False.elim h
theorem op_mulI : OpR X (binaryOp .Mult) (rI IntMulOk fun i j => .int (i * j)) := opI fun _ _ _ _ _ _ _ hc q => mul_int q hc
theorem ok_mulI {f : F2} (hf : ∀ x y k, f x y k → ∃ i j, x = .int i ∧ y = .int j ∧ IntMulOk i j ∧ k (.int (i * j))) : Op2Ok K f (rI IntMulOk fun i j => .int (i * j)) := by
  intro F H vx vy x y k Q s dx dy h c
  obtain ⟨i, j, rfl, rfl, h1, h2⟩ := hf _ _ _ h
  rw [dx.int, dy.int]
  exact ⟨_, _, rfl, rfl, h1, c _ _ F H h2 (Grow.refl s) (.int _)⟩
theorem ok_I {f : F2} {C : Int → Int → Prop} {g : Int → Int → Int} (hf : ∀ x y k, f x y k → ∃ i j, x = .int i ∧ y = .int j ∧ C i j ∧ k (.int (g i j))) : Op2Ok K f (rI C fun i j => .int (g i j)) := by
  intro F H vx vy x y k Q s dx dy h c
  obtain ⟨i, j, rfl, rfl, h1, h2⟩ := hf _ _ _ h
  rw [dx.int, dy.int]
  exact ⟨_, _, rfl, rfl, h1, c _ _ F H h2 (Grow.refl s) (.int _)⟩
theorem ok_fdiv : Op2Ok K bFdiv (rI CDivW fun i j => .int (i / j)) := ok_I fun x y k h => by
  unfold bFdiv at h
  split at h
  · exact ⟨_, _, rfl, rfl, h⟩
  · exact False.elim h
theorem op_fdivNW : OpR X (binaryOp .FloorDiv) (rI (fun _ j => j ≠ 0 ∧ j.natAbs.log2 < 9000) fun i j => .int (i.fdiv j)) := opI fun i j _ _ _ _ _ hc q => floordiv_int hc.1 q (.inl (PyProof.noPylong_of_log2 hc.2))
theorem ok_fdivN : Op2Ok K bFdivN (rI (fun _ j => j ≠ 0 ∧ j.natAbs.log2 < 9000) fun i j => .int (i.fdiv j)) := ok_I fun x y k h => by
  unfold bFdivN at h
  split at h
  · exact ⟨_, _, rfl, rfl, h⟩
  · exact False.elim h
theorem ok_mod : Op2Ok K bMod (rI (fun _ j => 0 < j) fun i j => .int (i % j)) := ok_I fun x y k h => by
  unfold bMod at h
  split at h
  · exact ⟨_, _, rfl, rfl, h⟩
  · exact False.elim h
theorem ok_modN : Op2Ok K bModN (rI (fun _ j => j ≠ 0) fun i j => .int (i.fmod j)) := ok_I fun x y k h => by
  unfold bModN at h
  split at h
  · exact ⟨_, _, rfl, rfl, h⟩
  · exact False.elim h
theorem op_powW : OpR X (binaryOp .Pow) (rI CPowW fun i j => .int (i ^ j.toNat)) := opI fun _ _ _ _ _ _ _ hc q => pow_int hc.1 hc.2 q
theorem ok_pow : Op2Ok K bPow (rI CPowW fun i j => .int (i ^ j.toNat)) := ok_I fun x y k h => by
  unfold bPow at h
  split at h
  · exact ⟨_, _, rfl, rfl, h⟩
  · exact False.elim h
theorem ok_shl : Op2Ok K bShl (rI CPow fun i j => .int (i * 2 ^ j.toNat)) := ok_I fun x y k h => by
  unfold bShl at h
  split at h
  · exact ⟨_, _, rfl, rfl, h⟩
  · exact False.elim h
/-- a list, a tuple by an int: new ones -/
def rRepD : R2 := fun x y H Q => ∃ l k xs, x = .ref l ∧ y = .int k ∧ H l = some (.lst xs) ∧ -(2 ^ 63) ≤ k ∧ k < 2 ^ 63 ∧ xs.length * k.toNat ≤ sizeLine ∧
  ∀ p, H p = none → Q (.ref p) (upd H p (.lst (List.replicate k.toNat xs).flatten))
/-- the one of the forms that the data choose -/
def bMulI : F2
  | .int i, .int j, k => IntMulOk i j ∧ k (.int (i * j))
  | _, _, _ => False
theorem ok_mul : Op2Ok K bMulI (rI IntMulOk fun i j => .int (i * j)) := ok_mulI fun x y k h => by
  unfold bMulI at h
  split at h
  · exact ⟨_, _, rfl, rfl, h⟩
  · exact False.elim h
/-- a tuple by an int from 2 to 1000, or by 1 (the same one) -/
def bRepT : F2
  | .tuple xs, .int j, k => (xs ≠ [] ∧ 2 ≤ j ∧ j ≤ 1000 ∧ xs.length ≤ 1000) ∧ k (.tuple (List.replicate j.toNat xs).flatten)
  | _, _, _ => False
theorem ok_repT : Op2Ok K bRepT (rRepT K) := by
  intro F H vx vy x y k Q s dx dy h c
  unfold bRepT at h
  split at h
  · obtain ⟨a, vs, rfl, q, d⟩ := dx.tup s
    obtain ⟨⟨h1, h2, h3, h4⟩, h5⟩ := h
    rw [dy.int]
    refine ⟨a, _, vs, rfl, rfl, q, fun z => h1 (by have := d.length; rw [z] at this; exact List.length_eq_zero_iff.mp this.symm), h2, h3, by rw [d.length]; exact h4, fun p hp => ?_⟩
    have g := Grow.frozen s hp (.tup (List.replicate (Int.toNat ‹Int›) vs).flatten)
    exact c _ _ _ _ h5 g (.tup (SqT.of upd_same) ((DfA.replicate _ d).mono g.ff))
  · exact False.elim h

/-! ### comparisons -/
def shp (d : PD) : Prop := SeqAt.shaped d = true ∧ noDict d = true
def cEq : F2
  | .int i, .int j, k => k (.bool (decide (i = j)))
  | .str a, .str b, k => k (.bool (decide (a = b)))
  | x, y, k => shp x ∧ shp y ∧ k (.bool (PyData.eqv x y))
def cNe : F2
  | .int i, .int j, k => k (.bool (!decide (i = j)))
  | .str a, .str b, k => k (.bool (!decide (a = b)))
  | x, y, k => shp x ∧ shp y ∧ k (.bool (!PyData.eqv x y))
def rEqU (K : PySem.W.Frag) : R2 := fun x y H Q => rEq x y H Q ∨ rEqD K x y H Q
def rNeU (K : PySem.W.Frag) : R2 := fun x y H Q => rNe x y H Q ∨ rNeD K x y H Q
theorem op_eqU (hu : X.A.units + 64 < cLine) : OpR X (compareOp .Eq) (rEqU X.K) := op_eq.or (op_eqD hu)
theorem op_neU (hu : X.A.units + 64 < cLine) : OpR X (compareOp .NotEq) (rNeU X.K) := op_ne.or (op_neD hu)
theorem ok_eq : Op2Ok K cEq (rEqU K) := fun F H vx vy x y k Q s dx dy h c => by
  unfold cEq at h
  split at h
  · rw [dx.int, dy.int]
    refine .inl ⟨rfl, ?_⟩
    have := c _ _ F H h (Grow.refl s) (.bl _)
    simpa using this
  · rw [dx.str, dy.str]
    refine .inl ⟨rfl, ?_⟩
    have := c _ _ F H h (Grow.refl s) (.bl _)
    simpa using this
  · exact .inr ⟨x, y, (dx.df s).dp h.1.2, (dy.df s).dp h.2.1.2, h.1.1, h.2.1.1, c _ _ F H h.2.2 (Grow.refl s) (.bl _)⟩
theorem ok_ne : Op2Ok K cNe (rNeU K) := fun F H vx vy x y k Q s dx dy h c => by
  unfold cNe at h
  split at h
  · rw [dx.int, dy.int]
    refine .inl ⟨rfl, ?_⟩
    have := c _ _ F H h (Grow.refl s) (.bl _)
    simpa using this
  · rw [dx.str, dy.str]
    refine .inl ⟨rfl, ?_⟩
    have := c _ _ F H h (Grow.refl s) (.bl _)
    simpa using this
  · exact .inr ⟨x, y, (dx.df s).dp h.1.2, (dy.df s).dp h.2.1.2, h.1.1, h.2.1.1, c _ _ F H h.2.2 (Grow.refl s) (.bl _)⟩
def cI (p : Int → Int → Bool) : F2
  | .int i, .int j, k => k (.bool (p i j))
  | _, _, _ => False
theorem ok_cI (p : Int → Int → Bool) : Op2Ok K (cI p) (rI0 fun i j => .bl (p i j)) := by
  intro F H vx vy x y k Q s dx dy h c
  unfold cI at h
  split at h
  · rw [dx.int, dy.int]
    exact ⟨_, _, rfl, rfl, c _ _ F H h (Grow.refl s) (.bl _)⟩
  · exact False.elim h
abbrev cLt : F2 := cI fun i j => decide (i < j)
abbrev cLe : F2 := cI fun i j => decide (i ≤ j)
abbrev cGt : F2 := cI fun i j => decide (j < i)
abbrev cGe : F2 := cI fun i j => decide (j ≤ i)
/-- is None, is not None -/
def isNone : PD → Bool
  | .none => true
  | _ => false
def cIsN : F2 := fun x y k => y = .none ∧ k (.bool (isNone x))
def cNotN : F2 := fun x y k => y = .none ∧ k (.bool (!isNone x))
theorem dr_non {v : V} {x : PD} (h : Dr K F H v x) : decide (v = .non) = isNone x := by
  cases h with
  | f h => cases h <;> simp [isNone]
  | l _ _ => simp [isNone]
  | k _ _ => simp [isNone]
theorem ok_isN : Op2Ok K cIsN (fun x y H Q => y = .non ∧ Q (.bl (decide (x = .non))) H) := by
  intro F H vx vy x y k Q s dx dy ⟨h1, h2⟩ c
  subst h1
  refine ⟨dy.non, ?_⟩
  rw [dr_non dx]
  exact c _ _ F H h2 (Grow.refl s) (.bl _)
theorem ok_notN : Op2Ok K cNotN (fun x y H Q => y = .non ∧ Q (.bl (!decide (x = .non))) H) := by
  intro F H vx vy x y k Q s dx dy ⟨h1, h2⟩ c
  subst h1
  refine ⟨dy.non, ?_⟩
  rw [dr_non dx]
  exact c _ _ F H h2 (Grow.refl s) (.bl _)
/-- is True, is not True of truths -/
def cIsB : F2
  | .bool a, .bool b, k => k (.bool (decide (a = b)))
  | _, _, _ => False
def cNotB : F2
  | .bool a, .bool b, k => k (.bool (!decide (a = b)))
  | _, _, _ => False
theorem ok_isB : Op2Ok K cIsB (fun x y H Q => ∃ a b, x = .bl a ∧ y = .bl b ∧ Q (.bl (decide (a = b))) H) := by
  intro F H vx vy x y k Q s dx dy h c
  unfold cIsB at h
  split at h
  · rw [dx.bl, dy.bl]
    exact ⟨_, _, rfl, rfl, c _ _ F H h (Grow.refl s) (.bl _)⟩
  · exact False.elim h
theorem ok_notB : Op2Ok K cNotB (fun x y H Q => ∃ a b, x = .bl a ∧ y = .bl b ∧ Q (.bl (!decide (a = b))) H) := by
  intro F H vx vy x y k Q s dx dy h c
  unfold cNotB at h
  split at h
  · rw [dx.bl, dy.bl]
    exact ⟨_, _, rfl, rfl, c _ _ F H h (Grow.refl s) (.bl _)⟩
  · exact False.elim h
/-- flat things -/
def flatD : PD → Bool
  | .none => true
  | .bool _ => true
  | .int _ => true
  | .str _ => true
  | _ => false
theorem flat_v {v : V} {x : PD} (h : Df K F v x) (f : flatD x = true) : flatV v = true ∧ ∀ {u : V} {y : PD}, Df K F u y → flatD y = true → eqV v u = PyData.eqv x y := by
  cases h <;> simp [flatD] at f <;> refine ⟨rfl, fun {u y} g fy => ?_⟩ <;> cases g <;> first | (simp [flatD] at fy; done) | rfl | (simp [eqV, PyData.eqv])
theorem Dr.flat {v : V} {x : PD} (h : Dr K F H v x) (f : flatD x = true) : Df K F v x := by
  cases h with
  | f h => exact h
  | l _ _ => simp [flatD] at f
  | k _ _ => simp [flatD] at f
def itemsD : PD → Option (List PD)
  | .list xs => some xs
  | .tuple xs => some xs
  | _ => none
/-- in, not in a list or tuple of flat things -/
def cIn (neg : Bool) : F2 := fun x y k => flatD x = true ∧ ∃ ys, itemsD y = some ys ∧ ys.all flatD = true ∧ k (.bool (if neg then !(ys.any fun z => PyData.eqv z x) else ys.any fun z => PyData.eqv z x))
theorem flat_all {vs : List V} {ys : List PD} (h : DfA K F vs ys) (f : ys.all flatD = true) : vs.all flatV = true ∧ ∀ {u : V} {y : PD}, Df K F u y → flatD y = true → (vs.any fun z => eqV z u) = ys.any fun z => PyData.eqv z y := by
  induction vs generalizing ys with
  | nil => cases h; exact ⟨rfl, fun _ _ => rfl⟩
  | cons v vs ih =>
    cases h with
    | cons a b =>
      rw [List.all_cons, Bool.and_eq_true] at f
      obtain ⟨h1, h2⟩ := flat_v a f.1
      obtain ⟨h3, h4⟩ := ih b f.2
      refine ⟨by rw [List.all_cons, h1, h3]; rfl, fun {u y} g fy => ?_⟩
      rw [List.any_cons, List.any_cons, h2 g fy, h4 g fy]
theorem ok_in (neg : Bool) : Op2Ok K (cIn neg) (rIn K neg) := by
  intro F H vx vy x y k Q s dx dy ⟨fx, ys, ey, fy, h⟩ c
  have dx' := dx.flat fx
  obtain ⟨b, vs, rfl, q, d⟩ : ∃ b vs, vy = .ref b ∧ (SqL K H b vs ∨ SqT K H b vs) ∧ DfA K F vs ys := by
    cases y <;> simp [itemsD] at ey
    · subst ey
      obtain ⟨b, vs, e, q, d⟩ := dy.lst s
      exact ⟨b, vs, e, .inl (rdSq q), d⟩
    · subst ey
      obtain ⟨b, vs, e, q, d⟩ := dy.tup s
      exact ⟨b, vs, e, .inr q, d⟩
  obtain ⟨a1, a2⟩ := flat_all d fy
  refine ⟨b, vs, rfl, q, (flat_v dx' fx).1, a1, ?_⟩
  have e := a2 dx' fx
  unfold inV
  rw [e]
  exact c _ _ F H h (Grow.refl s) (.bl _)
end
end DL
/-! The data layer, part d: the other expressions, tests, calls of built-ins. -/
namespace DL
open PySem L2 PyProof.Rows

section
variable {G : Gm} {X : Cx} {K : PySem.W.Frag} {F F' H H' : Hp} {ρ : En} {σ : L2.St} {e e2 e3 : Expr} {es : List Expr} {pos : Pos} {r r' : R2} {f f' : F2} {oa ob oc : Op1} {ta tb tc : TD} {t u : TTd}

/-! ### not, -, tests -/
def dNeg (o : Op1) : TD := fun ρ Q => o.run ρ fun a ρ1 => res1 ρ1 a fun x => match x with
  | .int i => Q (.int (-i)) ρ1
  | _ => False
theorem LD.neg (h : LO X e oa) : LD X (.UnaryOp .USub e pos) (dNeg oa) := ⟨peImp (pe_un un_neg h.p) fun σ H Q ⟨G, ρ, F, Q', R, q, c⟩ => ⟨G, ρ, F, _, R, q, fun a ρ1 v H1 F1 h1 R1 s1 av => by
  obtain ⟨x, h2, d⟩ := res1_dr R1 av h1
  split at h2
  · rw [d.int]
    exact ⟨_, rfl, c _ _ _ _ _ h2 R1 s1 (.int _)⟩
  · exact False.elim h2⟩⟩
def tVal (t : TD) : TTd := fun ρ Q => t ρ fun x ρ1 => match x with
  | .bool b => Q b ρ1
  | _ => False
theorem LT.val (h : LD X e ta) (he : ∀ whole, isTrue e X.env whole = (do let v ← whole; standAt e.pos; holding [v] (truthy v)) := by intro _; rfl) : LT X e (tVal ta) := ⟨ptImp (pt_val h.p he) fun σ H Q ⟨G, ρ, F, Q', R, q, c⟩ => ⟨G, ρ, F, _, R, q, fun x ρ1 v H1 F1 h1 R1 s1 d => by
  split at h1
  · cases d
    exact ⟨_, rfl, c _ _ _ _ h1 R1 s1⟩
  · exact False.elim h1⟩⟩
/-- two ways -/
def brB (b : Bool) (p q : Prop) : Prop := (b = true → p) ∧ (b = false → q)
def tAndD (t u : TTd) : TTd := fun ρ Q => t ρ fun b ρ1 => brB b (u ρ1 Q) (Q false ρ1)
def tOrD (t u : TTd) : TTd := fun ρ Q => t ρ fun b ρ1 => brB b (Q true ρ1) (u ρ1 Q)
def tNotD (t : TTd) : TTd := fun ρ Q => t ρ fun b ρ1 => Q (!b) ρ1
theorem LW.and1 (h : LT X e t) : LW X (.BoolOp .And [e] pos) t := ⟨pw_and1 h.p⟩
theorem LW.or1 (h : LT X e t) : LW X (.BoolOp .Or [e] pos) t := ⟨pw_or1 h.p⟩
theorem LW.and (h : LT X e t) (h2 : LW X (.BoolOp .And (e2 :: es) pos) u) : LW X (.BoolOp .And (e :: e2 :: es) pos) (tAndD t u) := ⟨pwImp (pw_and h.p h2.p) fun σ H Q ⟨G, ρ, F, Q', R, q, c⟩ => ⟨G, ρ, F, _, R, q, fun b ρ1 H1 F1 h1 R1 s1 => by
  cases b with
  | true => exact ⟨G, ρ1, F1, Q', R1, h1.1 rfl, fun b ρ2 H2 F2 h2 R2 s2 => c _ _ _ _ h2 R2 (s1.trans s2)⟩
  | false => exact c _ _ _ _ (h1.2 rfl) R1 s1⟩⟩
theorem LW.or (h : LT X e t) (h2 : LW X (.BoolOp .Or (e2 :: es) pos) u) : LW X (.BoolOp .Or (e :: e2 :: es) pos) (tOrD t u) := ⟨pwImp (pw_or h.p h2.p) fun σ H Q ⟨G, ρ, F, Q', R, q, c⟩ => ⟨G, ρ, F, _, R, q, fun b ρ1 H1 F1 h1 R1 s1 => by
  cases b with
  | false => exact ⟨G, ρ1, F1, Q', R1, h1.2 rfl, fun b ρ2 H2 F2 h2 R2 s2 => c _ _ _ _ h2 R2 (s1.trans s2)⟩
  | true => exact c _ _ _ _ (h1.1 rfl) R1 s1⟩⟩
theorem LT.w (h : LW X e t) : LT X e t := ⟨h.p.pt⟩
theorem LT.not (h : LT X e t) : LT X (.UnaryOp .Not e pos) (tNotD t) := ⟨ptImp (pt_not h.p) fun σ H Q ⟨G, ρ, F, Q', R, q, c⟩ => ⟨G, ρ, F, _, R, q, fun b ρ1 H1 F1 h1 R1 s1 => c _ _ _ _ h1 R1 s1⟩⟩
/-- and, or, not as values -/
def dAnd (ta tb : TD) : TD := fun ρ Q => ta ρ fun x ρ1 => match x with
  | .bool b => brB b (tb ρ1 Q) (Q (.bool false) ρ1)
  | _ => False
def dOr (ta tb : TD) : TD := fun ρ Q => ta ρ fun x ρ1 => match x with
  | .bool b => brB b (Q (.bool true) ρ1) (tb ρ1 Q)
  | _ => False
def dNot (ta : TD) : TD := fun ρ Q => ta ρ fun x ρ1 => match x with
  | .bool b => Q (.bool (!b)) ρ1
  | _ => False
theorem LD.one {op : BoolOp} (h : LD X e ta) : LD X (.BoolOp op [e] pos) ta := ⟨pe_one h.p⟩
theorem LD.and (h : LD X e ta) (h2 : LD X (.BoolOp .And (e2 :: es) pos) tb) : LD X (.BoolOp .And (e :: e2 :: es) pos) (dAnd ta tb) := ⟨peImp (pe_and h.p h2.p) fun σ H Q ⟨G, ρ, F, Q', R, q, c⟩ => ⟨G, ρ, F, _, R, q, fun x ρ1 v H1 F1 h1 R1 s1 d => by
  split at h1
  · rename_i b
    cases d
    refine ⟨b, rfl, ?_⟩
    cases b with
    | true => exact ⟨G, ρ1, F1, Q', R1, h1.1 rfl, fun x ρ2 v H2 F2 h2 R2 s2 d => c _ _ _ _ _ h2 R2 (s1.trans s2) d⟩
    | false => exact c _ _ _ _ _ (h1.2 rfl) R1 s1 (.bl _)
  · exact False.elim h1⟩⟩
theorem LD.or (h : LD X e ta) (h2 : LD X (.BoolOp .Or (e2 :: es) pos) tb) : LD X (.BoolOp .Or (e :: e2 :: es) pos) (dOr ta tb) := ⟨peImp (pe_or h.p h2.p) fun σ H Q ⟨G, ρ, F, Q', R, q, c⟩ => ⟨G, ρ, F, _, R, q, fun x ρ1 v H1 F1 h1 R1 s1 d => by
  split at h1
  · rename_i b
    cases d
    refine ⟨b, rfl, ?_⟩
    cases b with
    | false => exact ⟨G, ρ1, F1, Q', R1, h1.2 rfl, fun x ρ2 v H2 F2 h2 R2 s2 d => c _ _ _ _ _ h2 R2 (s1.trans s2) d⟩
    | true => exact c _ _ _ _ _ (h1.1 rfl) R1 s1 (.bl _)
  · exact False.elim h1⟩⟩
theorem LD.not (h : LD X e ta) : LD X (.UnaryOp .Not e pos) (dNot ta) := ⟨peImp (pe_not h.p) fun σ H Q ⟨G, ρ, F, Q', R, q, c⟩ => ⟨G, ρ, F, _, R, q, fun x ρ1 v H1 F1 h1 R1 s1 d => by
  split at h1
  · cases d
    exact ⟨_, rfl, c _ _ _ _ _ h1 R1 s1 (.bl _)⟩
  · exact False.elim h1⟩⟩
/-- a if t else b -/
def dIte (t : TTd) (ta tb : TD) : TD := fun ρ Q => t ρ fun b ρ1 => brB b (ta ρ1 Q) (tb ρ1 Q)
theorem LD.ite (h : LT X e t) (h2 : LD X e2 ta) (h3 : LD X e3 tb) : LD X (.IfExp e e2 e3 pos) (dIte t ta tb) := ⟨peImp (pe_ifExp h.p h2.p h3.p) fun σ H Q ⟨G, ρ, F, Q', R, q, c⟩ => ⟨G, ρ, F, _, R, q, fun b ρ1 H1 F1 h1 R1 s1 => by
  cases b with
  | true => exact ⟨G, ρ1, F1, Q', R1, h1.1 rfl, fun x ρ2 v H2 F2 h2 R2 s2 d => c _ _ _ _ _ h2 R2 (s1.trans s2) d⟩
  | false => exact ⟨G, ρ1, F1, Q', R1, h1.2 rfl, fun x ρ2 v H2 F2 h2 R2 s2 d => c _ _ _ _ _ h2 R2 (s1.trans s2) d⟩⟩⟩
/-- a < b < c of ints -/
def dChain (p p' : Int → Int → Bool) (oa ob oc : Op1) : TD := fun ρ Q => oa.run ρ fun a ρ1 => ob.run ρ1 fun b ρ2 => res1 ρ2 a fun x => res1 ρ2 b fun y => match x, y with
  | .int i, .int j => brB (p i j) (oc.run ρ2 fun cc ρ3 => res1 ρ3 cc fun z => (match z with
    | .int k => Q (.bool (p' j k)) ρ3
    | _ => False)) (Q (.bool false) ρ2)
  | _, _ => False
theorem tChain_of {p p' : Int → Int → Bool} {Q : VK} (h : liftD K (dChain p p' oa ob oc) σ H Q) : tChain (rI0 fun i j => .bl (p i j)) (rI0 fun i j => .bl (p' i j)) (liftO K oa) (liftO K ob) (liftO K oc) σ H Q :=
  let ⟨G, ρ, F, Q', R, q, c⟩ := h
  ⟨G, ρ, F, _, R, q, fun a ρ1 vx H1 F1 h1 R1 s1 ax => ⟨G, ρ1, F1, _, R1, h1, fun b ρ2 vy H2 F2 h2 R2 s2 ay => by
    obtain ⟨x, h3, dx⟩ := res1_dr R2 (ax.mono s2) h2
    obtain ⟨y, h4, dy⟩ := res1_dr R2 ay h3
    split at h4
    · rename_i i j
      rw [dx.int, dy.int]
      refine ⟨i, j, rfl, rfl, _, rfl, ?_⟩
      cases hp : p i j with
      | true =>
        replace h4 := h4.1 hp
        refine iteT ⟨G, ρ2, F2, _, R2, h4, fun cc ρ3 vz H3 F3 h5 R3 s3 az => ?_⟩
        obtain ⟨z, h6, dz⟩ := res1_dr R3 az h5
        split at h6
        · rw [dz.int]
          exact ⟨_, _, rfl, rfl, c _ _ _ _ _ h6 R3 ((s1.trans s2).trans s3) (.bl _)⟩
        · exact False.elim h6
      | false =>
        replace h4 := h4.2 hp
        exact iteF (c _ _ _ _ _ h4 R2 (s1.trans s2) (.bl _))
    · exact False.elim h4⟩⟩
theorem LD.chain {op op' : CmpOp} {p p' : Int → Int → Bool} (ho : OpR X (compareOp op) (rI0 fun i j => .bl (p i j))) (ho' : OpR X (compareOp op') (rI0 fun i j => .bl (p' i j))) (ha : LO X e oa) (hb : LO X e2 ob) (hc : LO X e3 oc)
    (hm : lastMarks [op, op'] [e2, e3] = false := by with_unfolding_all rfl) : LD X (.Compare e [op, op'] [e2, e3] pos) (dChain p p' oa ob oc) :=
  ⟨peImp (pe_chain ho ho' ha.p hb.p hc.p hm) fun _ _ _ h => tChain_of h⟩

/-! ### calls of built-ins -/
abbrev FN := List PD → (PD → Prop) → Prop
def BiOk (K : PySem.W.Frag) (f : FN) (r : List V → Hp → VK → Prop) : Prop := ∀ (F H : Hp) (vs : List V) (xs : List PD) (k : PD → Prop) (Q : VK), Same F H → DrA K F H vs xs → f xs k →
  (∀ z v F' H', k z → Grow F H F' H' → Df K F' v z → Q v H') → r vs H Q
def dBi (f : FN) (t : TAd) : TD := fun ρ Q => t ρ fun as ρ1 => resA ρ1 as fun xs => f xs fun z => Q z ρ1
variable {g : FN} {rr : List V → Hp → VK → Prop} {tt : TAd} {x : Str} {p : Pos} {bid T : String}
theorem tCB_of (hf : BiOk K g rr) {n : Nat} {Q : VK} (h : liftD K (dBi g tt) σ H Q) : tCB rr (liftA K n tt) σ H Q := by
  obtain ⟨G, ρ, F, Q', R, q, c⟩ := h
  refine ⟨G, ρ, F, _, R, q, fun as ρ1 vs H1 F1 h1 hl R1 s1 av => ?_⟩
  obtain ⟨xs, h2, d⟩ := resA_dr R1 av h1
  exact hf F1 H1 vs xs _ Q R1.fh d h2 fun z v F' H' kz g' d' => c _ _ _ _ _ kz (R1.grow g') (s1.trans g'.ff) d'
theorem LD.bi (hc : CallR X (.builtin bid) rr) (hf : BiOk X.K g rr) (hg : Gl X x) (hm : X.mg x = none) (hv : bootBuiltins x = some (.builtin bid)) (ha : LA X (e :: es) tt) (hn : x ≠ "__name__" := by decide) (hdb : (x == ("__debug__" : Str)) = false := by decide)
    (he : starEach (e :: es) X.env = (false, eval e X.env) :: starEach es X.env := by rfl) (hpl : (backTo pos (starEach es X.env)).any (·.1) = false := by rfl) :
    LD X (.Call (.Name x p) (e :: es) [] pos) (dBi g tt) := ⟨peImp (pe_callB hc hg hm hv ha.p hn hdb he hpl) fun _ _ _ h => tCB_of hf h⟩
theorem LD.bt (hc : CallR X (.type T) rr) (hf : BiOk X.K g rr) (hg : Gl X x) (hm : X.mg x = none) (hv : bootBuiltins x = some (.type T)) (ha : LA X (e :: es) tt) (hn : x ≠ "__name__" := by decide) (hdb : (x == ("__debug__" : Str)) = false := by decide)
    (he : starEach (e :: es) X.env = (false, eval e X.env) :: starEach es X.env := by rfl) (hpl : (backTo pos (starEach es X.env)).any (·.1) = false := by rfl) :
    LD X (.Call (.Name x p) (e :: es) [] pos) (dBi g tt) := ⟨peImp (pe_callTy hc hg hm hv ha.p hn hdb he hpl) fun _ _ _ h => tCB_of hf h⟩

theorem DrA.one {vs : List V} {x : PD} (h : DrA K F H vs [x]) : ∃ v, vs = [v] ∧ Dr K F H v x := by
  cases h with | cons a b => cases b; exact ⟨_, rfl, a⟩
theorem DrA.two {vs : List V} {x y : PD} (h : DrA K F H vs [x, y]) : ∃ v u, vs = [v, u] ∧ Dr K F H v x ∧ Dr K F H u y := by
  cases h with | cons a b => cases b with | cons b c => cases c; exact ⟨_, _, rfl, a, b⟩
def bLen : FN
  | [.list xs], k => k (.int (xs.length : Int))
  | [.tuple xs], k => k (.int (xs.length : Int))
  | [.str s], k => s.length ≤ sizeLine ∧ k (.int (s.length : Int))
  | _, _ => False
def rLenD (K : PySem.W.Frag) : List V → Hp → VK → Prop := fun xs H Q => (∃ p ys, xs = [.ref p] ∧ (SqL K H p ys ∨ SqT K H p ys) ∧ Q (.int ys.length) H) ∨ (∃ z, xs = [.str z] ∧ z.length ≤ sizeLine ∧ Q (.int z.length) H)
theorem call_lenU : CallR X (.builtin "len") (rLenD X.K) := fun pins s σ H xs us Q I r h => h.elim (fun h => call_len_seq pins s σ H xs us Q I r h) fun h => call_len_str pins s σ H xs us Q I r h
theorem ok_len : BiOk K bLen (rLenD K) := by
  intro F H vs xs k Q s d h c
  unfold bLen at h
  split at h
  · obtain ⟨v, rfl, d1⟩ := d.one
    obtain ⟨a, us, rfl, q, d3⟩ := d1.lst s
    refine .inl ⟨a, us, rfl, .inl (rdSq q), ?_⟩
    rw [d3.length]
    exact c _ _ F H h (Grow.refl s) (.int _)
  · obtain ⟨v, rfl, d1⟩ := d.one
    obtain ⟨a, us, rfl, q, d3⟩ := d1.tup s
    refine .inl ⟨a, us, rfl, .inr q, ?_⟩
    rw [d3.length]
    exact c _ _ F H h (Grow.refl s) (.int _)
  · obtain ⟨v, rfl, d1⟩ := d.one
    rw [d1.str]
    exact .inr ⟨_, rfl, h.1, c _ _ F H h.2 (Grow.refl s) (.int _)⟩
  · exact False.elim h
def bAbs : FN
  | [.int i], k => k (.int (if i < 0 then -i else i))
  | _, _ => False
theorem ok_abs : BiOk K bAbs (fun xs H Q => ∃ i, xs = [.int i] ∧ Q (.int (if i < 0 then -i else i)) H) := by
  intro F H vs xs k Q s d h c
  unfold bAbs at h
  split at h
  · obtain ⟨v, rfl, d1⟩ := d.one
    rw [d1.int]
    exact ⟨_, rfl, c _ _ F H h (Grow.refl s) (.int _)⟩
  · exact False.elim h
def bInt : FN
  | [.int i], k => k (.int i)
  | [.bool b], k => k (.int (if b then 1 else 0))
  | _, _ => False
theorem ok_int : BiOk K bInt (fun xs H Q => (∃ i, xs = [.int i] ∧ Q (.int i) H) ∨ ∃ k, xs = [.bl k] ∧ Q (.int (if k then 1 else 0)) H) := by
  intro F H vs xs k Q s d h c
  unfold bInt at h
  split at h
  · obtain ⟨v, rfl, d1⟩ := d.one
    rw [d1.int]
    exact .inl ⟨_, rfl, c _ _ F H h (Grow.refl s) (.int _)⟩
  · obtain ⟨v, rfl, d1⟩ := d.one
    rw [d1.bl]
    exact .inr ⟨_, rfl, c _ _ F H h (Grow.refl s) (.int _)⟩
  · exact False.elim h
def bMax2 : FN
  | [.int i, .int j], k => k (.int (if j > i then j else i))
  | _, _ => False
def bMin2 : FN
  | [.int i, .int j], k => k (.int (if j < i then j else i))
  | _, _ => False
theorem ok_max2 : BiOk K bMax2 (fun xs H Q => ∃ i j, xs = [.int i, .int j] ∧ Q (.int (if j > i then j else i)) H) := by
  intro F H vs xs k Q s d h c
  unfold bMax2 at h
  split at h
  · obtain ⟨v, u, rfl, d1, d2⟩ := d.two
    rw [d1.int, d2.int]
    exact ⟨_, _, rfl, c _ _ F H h (Grow.refl s) (.int _)⟩
  · exact False.elim h
theorem ok_min2 : BiOk K bMin2 (fun xs H Q => ∃ i j, xs = [.int i, .int j] ∧ Q (.int (if j < i then j else i)) H) := by
  intro F H vs xs k Q s d h c
  unfold bMin2 at h
  split at h
  · obtain ⟨v, u, rfl, d1, d2⟩ := d.two
    rw [d1.int, d2.int]
    exact ⟨_, _, rfl, c _ _ F H h (Grow.refl s) (.int _)⟩
  · exact False.elim h
/-- lists of ints -/
def bSum : FN
  | [.list xs], k => ∃ ns : List Int, xs = ns.map .int ∧ k (.int ns.sum)
  | _, _ => False
theorem dfa_ints {vs : List V} {ns : List Int} (h : DfA K F vs (ns.map .int)) : vs = ns.map V.int := by
  induction ns generalizing vs with
  | nil => cases h; rfl
  | cons n r ih =>
    cases h with
    | cons a b => cases a; rw [ih b]; rfl
theorem dfa_bools {vs : List V} {ns : List Bool} (h : DfA K F vs (ns.map .bool)) : vs = ns.map V.bl := by
  induction ns generalizing vs with
  | nil => cases h; rfl
  | cons n r ih =>
    cases h with
    | cons a b => cases a; rw [ih b]; rfl
theorem Dr.intList {v : V} {ns : List Int} (s : Same F H) (h : Dr K F H v (.list (ns.map .int))) : ∃ a, v = .ref a ∧ SqL K H a (ns.map V.int) := by
  obtain ⟨a, vs, rfl, q, d⟩ := h.lst s
  rw [dfa_ints d] at q
  exact ⟨a, rfl, rdSq q⟩
theorem ok_sum : BiOk K bSum (rSum K) := by
  intro F H vs xs k Q s d h c
  unfold bSum at h
  split at h
  · obtain ⟨v, rfl, d1⟩ := d.one
    obtain ⟨ns, rfl, h⟩ := h
    obtain ⟨a, rfl, q⟩ := d1.intList s
    exact ⟨a, ns, rfl, q, c _ _ F H h (Grow.refl s) (.int _)⟩
  · exact False.elim h
def bMax1 : FN
  | [.list xs], k => ∃ ns : List Int, xs = ns.map .int ∧ 0 < ns.length ∧ ∀ m, m ∈ ns → (∀ y, y ∈ ns → y ≤ m) → k (.int m)
  | _, _ => False
def bMin1 : FN
  | [.list xs], k => ∃ ns : List Int, xs = ns.map .int ∧ 0 < ns.length ∧ ∀ m, m ∈ ns → (∀ y, y ∈ ns → m ≤ y) → k (.int m)
  | _, _ => False
theorem ok_max1 : BiOk K bMax1 (rMax K) := by
  intro F H vs xs k Q s d h c
  unfold bMax1 at h
  split at h
  · obtain ⟨v, rfl, d1⟩ := d.one
    obtain ⟨ns, rfl, h1, h⟩ := h
    obtain ⟨a, rfl, q⟩ := d1.intList s
    exact ⟨a, ns, rfl, q, h1, fun m h2 h3 => c _ _ F H (h m h2 h3) (Grow.refl s) (.int _)⟩
  · exact False.elim h
theorem ok_min1 : BiOk K bMin1 (rMin K) := by
  intro F H vs xs k Q s d h c
  unfold bMin1 at h
  split at h
  · obtain ⟨v, rfl, d1⟩ := d.one
    obtain ⟨ns, rfl, h1, h⟩ := h
    obtain ⟨a, rfl, q⟩ := d1.intList s
    exact ⟨a, ns, rfl, q, h1, fun m h2 h3 => c _ _ F H (h m h2 h3) (Grow.refl s) (.int _)⟩
  · exact False.elim h
def bAll : FN
  | [.list xs], k => ∃ bs : List Bool, xs = bs.map .bool ∧ k (.bool (bs.all id))
  | _, _ => False
theorem ok_all : BiOk K bAll (rAll K) := by
  intro F H vs xs k Q s d h c
  unfold bAll at h
  split at h
  · obtain ⟨v, rfl, d1⟩ := d.one
    obtain ⟨bs, rfl, h⟩ := h
    obtain ⟨a, us, rfl, q, d3⟩ := d1.lst s
    rw [dfa_bools d3] at q
    exact ⟨a, bs, rfl, rdSq q, c _ _ F H h (Grow.refl s) (.bl _)⟩
  · exact False.elim h
def bSortI : FN
  | [.list xs], k => ∃ ns : List Int, xs = ns.map .int ∧ ∀ ns' : List Int, ns'.Perm ns → ns'.Pairwise (· ≤ ·) → k (.list (ns'.map .int))
  | _, _ => False
theorem ok_sortI : BiOk K bSortI (rSortedI K) := by
  intro F H vs xs k Q s d h c
  unfold bSortI at h
  split at h
  · obtain ⟨v, rfl, d1⟩ := d.one
    obtain ⟨ns, rfl, h⟩ := h
    obtain ⟨a, rfl, q⟩ := d1.intList s
    refine ⟨a, ns, rfl, q, fun ns' p h1 h2 hp => ?_⟩
    have g := Grow.frozen s hp (.lst (ns'.map V.int))
    exact c _ _ _ _ (h ns' h1 h2) g (.lst (.inl upd_same) (DfA.ints ns'))
  · exact False.elim h
/-- tuple of a list (new), of a tuple (the same) -/
def bTuple : FN
  | [.list xs], k => k (.tuple xs)
  | [.tuple xs], k => k (.tuple xs)
  | _, _ => False
theorem ok_tuple : BiOk K bTuple (fun xs H Q => ∃ p ys, xs = [.ref p] ∧ ((SqL K H p ys ∧ ∀ l, H l = none → Q (.ref l) (upd H l (.tup ys))) ∨ (SqT K H p ys ∧ Q (.ref p) H))) := by
  intro F H vs xs k Q s d h c
  unfold bTuple at h
  split at h
  · obtain ⟨v, rfl, d1⟩ := d.one
    obtain ⟨a, us, rfl, q, d3⟩ := d1.lst s
    refine ⟨a, us, rfl, .inl ⟨rdSq q, fun l hl => ?_⟩⟩
    have g := Grow.frozen s hl (.tup us)
    exact c _ _ _ _ h g (.tup (SqT.of upd_same) (d3.mono g.ff))
  · obtain ⟨v, rfl, d1⟩ := d.one
    obtain ⟨a, us, rfl, q, d3⟩ := d1.tup s
    cases d1 with
    | f d => exact ⟨a, us, rfl, .inr ⟨q, c _ _ F H h (Grow.refl s) d⟩⟩
  · exact False.elim h
/-- list of a list or a tuple: a new list of one's own -/
def fList (t : TAd) : TF := fun ρ Q => t ρ fun as ρ1 => resA ρ1 as fun xs => match xs with
  | [.list ys] => Q (.ls none ys) ρ1
  | [.tuple ys] => Q (.ls none ys) ρ1
  | _ => False
theorem LF.list (hg : Gl X "list") (hm : X.mg "list" = none) (ha : LA X (e :: es) tt)
    (he : starEach (e :: es) X.env = (false, eval e X.env) :: starEach es X.env := by rfl) (hpl : (backTo pos (starEach es X.env)).any (·.1) = false := by rfl) :
    LF X (.Call (.Name "list" p) (e :: es) [] pos) (fList tt) := ⟨peImp (pe_callTy call_list_of hg hm (by decide +kernel) ha.p (by decide) (by decide) he hpl) fun σ H Q ⟨G, ρ, F, Q', R, q, c⟩ => ⟨G, ρ, F, _, R, q, fun as ρ1 vs H1 F1 h1 hl R1 s1 av => by
  obtain ⟨xs, h2, d⟩ := resA_dr R1 av h1
  split at h2
  · obtain ⟨v, rfl, d1⟩ := d.one
    obtain ⟨a, us, rfl, q, d3⟩ := d1.lst R1.fh
    refine ⟨a, us, rfl, .inl (rdSq q), fun l hl => ?_⟩
    obtain ⟨R2, k⟩ := fresh_ok (l := .ls none _) (o := .lst us) R1 hl d3 rfl
    exact c _ _ _ _ _ h2 R2 s1 k
  · obtain ⟨v, rfl, d1⟩ := d.one
    obtain ⟨a, us, rfl, q, d3⟩ := d1.tup R1.fh
    refine ⟨a, us, rfl, .inr q, fun l hl => ?_⟩
    obtain ⟨R2, k⟩ := fresh_ok (l := .ls none _) (o := .lst us) R1 hl d3 rfl
    exact c _ _ _ _ _ h2 R2 s1 k
  · exact False.elim h2⟩⟩
/-- a list by an int: a new list of one's own -/
theorem op_repD : OpR X (binaryOp .Mult) rRep := op_rep
def fRep (oa ob : Op1) : TF := fun ρ Q => oa.run ρ fun a ρ1 => ob.run ρ1 fun b ρ2 => res1 ρ2 a fun x => res1 ρ2 b fun y => match x, y with
  | .list xs, .int j => (0 ≤ j ∧ j < 2 ^ 60 ∧ xs.length * j.toNat ≤ sizeLine) ∧ Q (.ls none (List.replicate j.toNat xs).flatten) ρ2
  | _, _ => False
theorem LF.rep {tl : TAd} (ha : LA X es tl) (hb : LO X e2 ob) (hn : es.length ≤ 100000 := by decide) : LF X (.BinOp (.List es p) .Mult e2 pos) (fRep (.e (dFz (fLst tl))) ob) :=
  ⟨peImp (pe_op op_rep (pe_lst ha.p) hb.p) fun σ H Q ⟨G, ρ, F, Q', R, q, c⟩ => ⟨G, ρ, F, _, R, q, fun as ρ1 vs H1 F1 h1 hl R1 s1 a1 => by
    obtain ⟨xs, h2, d⟩ := resFA_df R1 a1 h1
    refine ⟨Nat.le_trans (by rw [← a1.length, hl]; exact hn) (by decide), fun p hp => ?_⟩
    have g := Grow.frozen R1.fh hp (.lst vs)
    have R2 := R1.grow g
    have h2 : ob.run ρ1 _ := h2
    refine ⟨G, ρ1, _, _, R2, h2, fun b ρ2 vy H2 F2 h3 R3 s3 ay => ?_⟩
    have h3 : res1 ρ2 b _ := h3
    obtain ⟨y, h4, dy⟩ := res1_dr R3 ay h3
    split at h4
    · rename_i xs' j e1
      cases e1
      rw [dy.int]
      obtain ⟨⟨g1, g2, g3⟩, h5⟩ := h4
      have hH2 : H2 p = some (.lst vs) := R3.fh _ _ (s3 _ _ upd_same)
      refine ⟨p, j, vs, rfl, rfl, hH2, by omega, by omega, by rw [d.length]; exact g3, fun q hq => ?_⟩
      obtain ⟨R4, kk⟩ := fresh_ok (l := .ls none _) (o := .lst _) R3 hq (DfA.replicate j.toNat (d.mono (g.ff.trans s3))) rfl
      exact c _ _ _ _ _ h5 R4 ((s1.trans g.ff).trans s3) kk
    · exact False.elim h4⟩⟩

/-! ### isinstance of a built-in type -/
def isTy (T : String) : PD → Bool
  | .none => false
  | .bool _ => T == "bool" || T == "int"
  | .int _ => T == "int"
  | .str _ => T == "str"
  | .list _ => T == "list"
  | .tuple _ => T == "tuple"
  | .dict _ => false
def tyD : PD → String
  | .none => "NoneType"
  | .bool _ => "bool"
  | .int _ => "int"
  | .str _ => "str"
  | .list _ => "list"
  | .tuple _ => "tuple"
  | .dict _ => "dict"
def plainD : PD → Bool
  | .dict _ => false
  | _ => true
def dIsi (T : String) (o : Op1) : TD := fun ρ Q => o.run ρ fun a ρ1 => res1 ρ1 a fun x => plainD x = true ∧ Q (.bool (isTy T x)) ρ1
theorem tyx_of {v : V} {x : PD} (h : Df K H v x) (hd : plainD x = true) : TyX K H v (.type (tyD x)) := by
  cases h with
  | non => exact .base .non
  | bl b => exact .base (.bl b)
  | int i => exact .base (.int i)
  | str i => exact .base (.str i)
  | lst q _ =>
    rcases q with q | ⟨o, q⟩
    · exact .base (.lst q)
    · exact .base (.frz q)
  | tup q _ =>
    rcases q with (q | ⟨o, q⟩) | ⟨o, its, n, q, cl, _⟩
    · exact .base (.tup q)
    · exact .fTuple q
    · exact .kTuple q cl
  | dk _ _ => cases hd
  | ins _ _ => cases hd
theorem kit_all {x : PD} {T : String} (hT : T = "int" ∨ T = "bool" ∨ T = "str" ∨ T = "tuple" ∨ T = "list") (hd : plainD x = true) : PySem.W.kitOne K (.type (tyD x)) (.type T) = some (isTy T x) := by
  refine kit_ty ?_
  cases x <;> first | (cases hd; done) | skip
  all_goals (rcases hT with rfl | rfl | rfl | rfl | rfl <;> (dsimp only [tyD, isTy]; decide +kernel))
theorem LD.isi {y : Str} {p2 : Pos} (T : String) (hT : T = "int" ∨ T = "bool" ∨ T = "str" ∨ T = "tuple" ∨ T = "list") (hg : Gl X "isinstance") (hm : X.mg "isinstance" = none) (hgT : Gl X y) (hmT : X.mg y = none) (hvT : bootBuiltins y = some (.type T)) (h : LO X e oa)
    (he : starEach [e, .Name y p2] X.env = (false, eval e X.env) :: starEach [.Name y p2] X.env := by rfl) (hpl : (backTo pos (starEach [.Name y p2] X.env)).any (·.1) = false := by rfl) (he2 : starEach [.Name y p2] X.env = (false, eval (.Name y p2) X.env) :: starEach [] X.env := by rfl)
    (hn : y ≠ "__name__" := by decide) (hdb : (y == ("__debug__" : Str)) = false := by decide) :
    LD X (.Call (.Name "isinstance" p) [e, .Name y p2] [] pos) (dIsi T oa) :=
  ⟨peImp (pe_callB call_isi hg hm (by decide +kernel) (pa_cons h.p (pa_cons (pe_bltn (v := .ty T) hgT hmT hvT rfl hn hdb) pa_nil he2) he) (by decide) (by decide) he hpl) fun σ H Q ⟨G, ρ, F, Q', R, q, c⟩ => ⟨G, ρ, F, _, R, q, fun a ρ1 v H1 F1 h1 R1 s1 av => by
    obtain ⟨x, ⟨hd, h2⟩, d⟩ := res1_dr R1 av h1
    exact ⟨v, .ty T, _, _, _, rfl, .ty T, tyx_of (d.df R1.fh) hd, kit_all hT hd, c _ _ _ _ _ h2 R1 s1 (.bl _)⟩⟩⟩

/-! ### subscripts -/
def bIx : F2
  | .list xs, .int i, k => ∃ d, atI xs i = some d ∧ k d
  | .tuple xs, .int i, k => ∃ d, atI xs i = some d ∧ k d
  | .str z, .int i, k => z.length ≤ sizeLine ∧ ∃ c, atI z.cps.toList i = some c ∧ k (.str ⟨#[c]⟩)
  | _, _, _ => False
theorem atI_df {vs : List V} {xs : List PD} {d : PD} {i : Int} (h : DfA K F vs xs) (e : atI xs i = some d) : ∃ v, atI vs i = some v ∧ Df K F v d := by
  unfold atI at e ⊢
  rw [h.length]
  cases q : ixN xs.length i with
  | none => rw [q] at e; cases e
  | some j =>
    rw [q] at e
    obtain ⟨v, h1, h2⟩ := h.get (i := j) e
    exact ⟨v, h1, h2⟩
theorem ok_ix : Op2Ok K bIx (rIx K) := by
  intro F H vx vy x y k Q s dx dy h c
  unfold bIx at h
  split at h
  · obtain ⟨a, vs, rfl, q, d⟩ := dx.lst s
    obtain ⟨z, h1, h2⟩ := h
    obtain ⟨v, h3, h4⟩ := atI_df d h1
    rw [dy.int]
    exact .inl ⟨a, vs, _, v, rfl, rfl, rdSq q, h3, c _ _ F H h2 (Grow.refl s) h4⟩
  · obtain ⟨a, vs, rfl, q, d⟩ := dx.tup s
    obtain ⟨z, h1, h2⟩ := h
    obtain ⟨v, h3, h4⟩ := atI_df d h1
    rw [dy.int]
    exact .inr (.inl ⟨a, vs, _, v, rfl, rfl, q, h3, c _ _ F H h2 (Grow.refl s) h4⟩)
  · obtain ⟨h0, z, h1, h2⟩ := h
    rw [dx.str, dy.int]
    exact .inr (.inr ⟨_, _, z, rfl, rfl, h0, h1, c _ _ F H h2 (Grow.refl s) (.str _)⟩)
  · exact False.elim h
theorem LD.ix (ha : LO X e oa) (hb : LO X e2 ob) (hs : PlainIx e2) : LD X (.Subscript e e2 pos) (dBin bIx oa ob) := ⟨peImp (pe_ix ix_seq ha.p hb.p hs) fun _ _ _ h => tOp_of ok_ix h⟩
/-- a part of a slice -/
abbrev TPd := En → (Option Int → En → Prop) → Prop
def pNone : TPd := fun ρ Q => Q none ρ
def pSome (o : Op1) : TPd := fun ρ Q => o.run ρ fun a ρ1 => res1 ρ1 a fun x => match x with
  | .int i => Q (some i) ρ1
  | _ => False
def liftP (K : PySem.W.Frag) (t : TPd) : TO := fun σ H Q => ∃ G ρ F Q', Rel K G ρ F σ H ∧ t ρ Q' ∧ ∀ i ρ' H' F', Q' i ρ' → Rel K G ρ' F' σ H' → Same F F' → Q i H'
structure LP (X : Cx) (e : Option Expr) (t : TPd) : Prop where
  p : PO X e (liftP X.K t)
theorem poImp {e : Option Expr} {t t' : TO} (h : PO X e t) (w : ∀ σ H Q, t' σ H Q → t σ H Q) : PO X e t' := ⟨fun pins s σ H Q I q => h.run pins s σ H Q I (w _ _ _ q)⟩
theorem LP.none : LP X none pNone := ⟨poImp po_none fun σ H Q ⟨G, ρ, F, Q', R, q, c⟩ => c _ _ _ F q R (Same.refl _)⟩
theorem LP.some (h : LO X e oa) : LP X (some e) (pSome oa) := ⟨poImp (po_some h.p) fun σ H Q ⟨G, ρ, F, Q', R, q, c⟩ => ⟨G, ρ, F, _, R, q, fun a ρ1 v H1 F1 h1 R1 s1 av => by
  obtain ⟨x, h2, d⟩ := res1_dr R1 av h1
  split at h2
  · rw [d.int]
    exact ⟨_, rfl, c _ _ _ _ h2 R1 s1⟩
  · exact False.elim h2⟩⟩
def cutD {α : Type} (xs : List α) (lo hi : Option Int) : List α := (xs.drop (HT.sIx xs.length 0 lo)).take (HT.sIx xs.length xs.length hi - HT.sIx xs.length 0 lo)
def dSl (oa : Op1) (lo hi : TPd) : TD := fun ρ Q => oa.run ρ fun a ρ1 => lo ρ1 fun i ρ2 => hi ρ2 fun j ρ3 => res1 ρ3 a fun x => match x with
  | .list xs => Q (.list (cutD xs i j)) ρ3
  | .tuple xs => Q (.tuple (cutD xs i j)) ρ3
  | .str z => z.length ≤ sizeLine ∧ Q (.str (cutS z i j)) ρ3
  | _ => False
theorem cut_df {vs : List V} {xs : List PD} (h : DfA K F vs xs) (i j : Option Int) : DfA K F (cutV vs i j) (cutD xs i j) := by
  unfold cutV cutD
  rw [h.length]
  exact (h.drop _).take _
theorem cut_whole {α : Type} {xs : List α} {i j : Option Int} (h : HT.sIx xs.length 0 i = 0 ∧ HT.sIx xs.length xs.length j = xs.length) : cutD xs i j = xs := by
  unfold cutD
  rw [h.1, h.2, List.drop_zero, Nat.sub_zero, List.take_length]
theorem LD.sl {lo hi : Option Expr} {tl th : TPd} {p2 : Pos} (ha : LO X e oa) (hl : LP X lo tl) (hh : LP X hi th) : LD X (.Subscript e (.Slice lo hi none p2) pos) (dSl oa tl th) :=
  ⟨peImp (pe_slice (sl_list.or (sl_tupA.or sl_str)) ha.p hl.p hh.p) fun σ H Q ⟨G, ρ, F, Q', R, q, c⟩ => ⟨G, ρ, F, _, R, q, fun a ρ1 v H1 F1 h1 R1 s1 av => ⟨G, ρ1, F1, _, R1, h1, fun i ρ2 H2 F2 h2 R2 s2 => ⟨G, ρ2, F2, _, R2, h2, fun j ρ3 H3 F3 h3 R3 s3 => by
    obtain ⟨x, h4, d⟩ := res1_dr R3 (av.mono (s2.trans s3)) h3
    have s := (s1.trans s2).trans s3
    split at h4
    · obtain ⟨b, vs, rfl, q, d'⟩ := d.lst R3.fh
      refine .inl ⟨b, vs, rfl, rdSq q, fun p hp => ?_⟩
      have g := Grow.frozen R3.fh hp (.lst (cutV vs i j))
      exact c _ _ _ _ _ h4 (R3.grow g) (s.trans g.ff) (.lst (.inl upd_same) ((cut_df d' i j).mono g.ff))
    · obtain ⟨b, vs, rfl, q, d'⟩ := d.tup R3.fh
      refine .inr (.inl ⟨b, vs, rfl, q, fun hw => ?_, fun _ p hp => ?_⟩)
      · have e1 : cutD _ i j = _ := cut_whole (xs := ‹List PD›) (by rw [← d'.length]; exact hw)
        rw [e1] at h4
        cases d with
        | f d => exact c _ _ _ _ _ h4 R3 s d
      · have g := Grow.frozen R3.fh hp (.tup (cutV vs i j))
        exact c _ _ _ _ _ h4 (R3.grow g) (s.trans g.ff) (.tup (SqT.of upd_same) ((cut_df d' i j).mono g.ff))
    · rw [d.str]
      exact .inr (.inr ⟨_, rfl, h4.1, c _ _ _ _ _ h4.2 R3 s (.str _)⟩)
    · exact False.elim h4⟩⟩⟩⟩
end
end DL
/-! The data layer, part e: statements, loops, comprehensions. -/
namespace DL
open PySem L2 PyProof.Rows

/-- what is wanted behind a statement -/
structure DE where
  nx : En → Prop
  rt : Lc → En → Prop
  bk : En → Prop := fun _ => False
  ct : En → Prop := fun _ => False
abbrev TSt := DE → En → Prop
structure CtOk (K : PySem.W.Frag) (G : Gm) (F : Hp) (D' : DE) (D : Ends) : Prop where
  nx : ∀ ρ σ H F', D'.nx ρ → Rel K G ρ F' σ H → Same F F' → D.nx σ H
  rt : ∀ l ρ v σ H F', D'.rt l ρ → Rel K G ρ F' σ H → Same F F' → RsOk K G F' H ρ σ l v → D.rt v H
  bk : ∀ ρ σ H F', D'.bk ρ → Rel K G ρ F' σ H → Same F F' → D.bk σ H
  ct : ∀ ρ σ H F', D'.ct ρ → Rel K G ρ F' σ H → Same F F' → D.ct σ H
theorem CtOk.mono {K : PySem.W.Frag} {G : Gm} {F F' : Hp} {D' : DE} {D : Ends} (c : CtOk K G F D' D) (s : Same F F') : CtOk K G F' D' D :=
  ⟨fun ρ σ H F2 h R s2 => c.nx ρ σ H F2 h R (s.trans s2), fun l ρ v σ H F2 h R s2 r => c.rt l ρ v σ H F2 h R (s.trans s2) r, fun ρ σ H F2 h R s2 => c.bk ρ σ H F2 h R (s.trans s2), fun ρ σ H F2 h R s2 => c.ct ρ σ H F2 h R (s.trans s2)⟩
def liftS (K : PySem.W.Frag) (t : TSt) : TS := fun D σ H => ∃ G ρ F D', Rel K G ρ F σ H ∧ t D' ρ ∧ CtOk K G F D' D
structure LS (X : Cx) (st : Stmt) (t : TSt) : Prop where
  p : PS X st (liftS X.K t)
structure LSs (X : Cx) (st : List Stmt) (t : TSt) : Prop where
  p : PSs X st (liftS X.K t)

section
variable {G : Gm} {X : Cx} {K : PySem.W.Frag} {F F' H H' : Hp} {ρ : En} {σ : L2.St} {e e2 e3 : Expr} {es : List Expr} {pos : Pos} {oa ob oc : Op1} {ta tb : TD} {c : TTd} {st : Stmt} {sts sts2 : List Stmt} {t u : TSt} {tf tf2 : TF}

/-! ### blocks and simple statements -/
def sNext : TSt := fun D ρ => D.nx ρ
/-- the slots are written out -/
def force : En → (En → Prop) → Prop
  | [], k => k []
  | a :: r, k => force r fun r' => k (a :: r')
theorem force_eq : ∀ (ρ : En) (k : En → Prop), force ρ k = k ρ
  | [], _ => rfl
  | a :: r, k => force_eq r fun r' => k (a :: r')
def sSeq (t u : TSt) : TSt := fun D ρ => t { D with nx := fun ρ' => force ρ' fun ρ'' => u D ρ'' } ρ
theorem LSs.nil : LSs X [] sNext := ⟨pssImp pss_nil fun D σ H ⟨G, ρ, F, D', R, h, k⟩ => k.nx _ _ _ _ h R (Same.refl _)⟩
theorem LSs.cons (h1 : LS X st t) (h2 : LSs X sts u) : LSs X (st :: sts) (sSeq t u) := ⟨pssImp (pss_cons h1.p h2.p) fun D σ H ⟨G, ρ, F, D', R, h, k⟩ =>
  ⟨G, ρ, F, _, R, h, ⟨fun ρ1 σ1 H1 F1 h1 R1 s1 => ⟨G, ρ1, F1, D', R1, (by have h1 : force ρ1 (fun ρ'' => u D' ρ'') := h1; rw [force_eq] at h1; exact h1), k.mono s1⟩, k.rt, k.bk, k.ct⟩⟩⟩
theorem LSs.one (h1 : LS X st t) : LSs X [st] t := ⟨pss_one h1.p⟩
theorem LS.pass : LS X (.Pass pos) sNext := ⟨psImp ps_pass fun D σ H ⟨G, ρ, F, D', R, h, k⟩ => k.nx _ _ _ _ h R (Same.refl _)⟩
def sBrk : TSt := fun D ρ => D.bk ρ
def sCnt : TSt := fun D ρ => D.ct ρ
theorem LS.brk : LS X (.Break pos) sBrk := ⟨psImp ps_break fun D σ H ⟨G, ρ, F, D', R, h, k⟩ => k.bk _ _ _ _ h R (Same.refl _)⟩
theorem LS.cnt : LS X (.Continue pos) sCnt := ⟨psImp ps_continue fun D σ H ⟨G, ρ, F, D', R, h, k⟩ => k.ct _ _ _ _ h R (Same.refl _)⟩
def sDrop (t : TD) : TSt := fun D ρ => t ρ fun _ ρ1 => D.nx ρ1
theorem LS.drop (h : LD X e ta) (hs : swapsWith e none pos.line X.env = pure false := by rfl) : LS X (.Expr e pos) (sDrop ta) := ⟨psImp (ps_expr h.p hs) fun D σ H ⟨G, ρ, F, D', R, q, k⟩ =>
  ⟨G, ρ, F, _, R, q, fun x ρ1 v H1 F1 h1 R1 s1 _ => k.nx _ _ _ _ h1 R1 s1⟩⟩
def sRet (t : TF) : TSt := fun D ρ => t ρ D.rt
theorem LS.ret (h : LF X e tf) : LS X (.Return (some e) pos) (sRet tf) := ⟨psImp (ps_ret h.p) fun D σ H ⟨G, ρ, F, D', R, q, k⟩ =>
  ⟨G, ρ, F, _, R, q, fun l ρ1 v H1 F1 h1 R1 s1 r1 => k.rt _ _ _ _ _ _ h1 R1 s1 r1⟩⟩
def sRetN : TSt := fun D ρ => D.rt (.d .none) ρ
theorem LS.retN : LS X (.Return none pos) sRetN := ⟨psImp ps_retN fun D σ H ⟨G, ρ, F, D', R, q, k⟩ => k.rt _ _ _ _ _ _ q R (Same.refl _) .non⟩
/-- return of a name: an own thing leaves its slot -/
def sRetV (i : Nat) : TSt := fun D ρ => match ρ[i]? with
  | some (some (.d x)) => D.rt (.d x) ρ
  | some (some l) => if (l.own && l.tag.isNone) = true then D.rt l (ρ.set i none) else False
  | _ => False
theorem LS.retV (i : Nat) (h : PE X e (tVar i)) : LS X (.Return (some e) pos) (sRetV i) := ⟨psImp (ps_ret h) fun D σ H ⟨G, ρ, F, D', R, q, k⟩ => by
  unfold sRetV at q
  split at q
  · rename_i x er
    obtain ⟨v, e1, d⟩ := R.sl i _ er
    exact ⟨v, e1, k.rt _ _ _ _ _ _ q R (Same.refl _) d⟩
  · rename_i l nd er
    split at q
    · rename_i hz
      rw [Bool.and_eq_true] at hz
      have ht : l.tag = none := by simpa using hz.2
      obtain ⟨a, es, at_⟩ := R.at_ er hz.1
      have r : ∃ a, V.ref a = .ref a ∧ l.tag = none ∧ At X.K G F H l a ∧ ∀ (j : Nat) (m : Lc), (ρ.set i none)[j]? = some (some m) → m.own = true → σ[j]? ≠ some (some (.ref a)) := ⟨a, rfl, ht, at_, fun j m e hm z => by
        rcases set_get e with ⟨_, _, w⟩ | ⟨hj, e⟩
        · cases w
        · exact hj (R.ds j i m l _ e er hm hz.1 z es)⟩
      refine ⟨_, es, k.rt l _ _ _ _ _ q (R.drop i) (Same.refl _) ?_⟩
      cases l with
      | d x => exact absurd rfl (nd x)
      | sc u => simp [Lc.own] at hz
      | _ => exact ⟨a, rfl, ht, at_, r.choose_spec.2.2.2 |> fun z => by
          intro j m e hm w
          rcases set_get e with ⟨_, _, w'⟩ | ⟨hj, e⟩
          · cases w'
          · exact hj (R.ds j i m _ _ e er hm hz.1 w es)⟩
    · exact False.elim q
  · exact False.elim q⟩
def sIf (c : TTd) (t u : TSt) : TSt := fun D ρ => c ρ fun b ρ1 => brB b (t D ρ1) (u D ρ1)
theorem LS.ite (h : LT X e c) (h1 : LSs X sts t) (h2 : LSs X sts2 u) : LS X (.If e sts sts2 pos) (sIf c t u) := ⟨psImp (ps_if h.p h1.p h2.p) fun D σ H ⟨G, ρ, F, D', R, q, k⟩ =>
  ⟨G, ρ, F, _, R, q, fun b ρ1 H1 F1 h1 R1 s1 => by
    cases b with
    | true => exact ⟨G, ρ1, F1, D', R1, h1.1 rfl, k.mono s1⟩
    | false => exact ⟨G, ρ1, F1, D', R1, h1.2 rfl, k.mono s1⟩⟩⟩

/-! ### stores -/
def sAsg (i : Nat) (t : TF) : TSt := fun D ρ => t ρ fun l ρ1 => D.nx (ρ1.set i (some l))
theorem RsOk.slot {l : Lc} {v : V} (h : RsOk K G F H ρ σ l v) : SlotOk K G F H l (some (some v)) ∧ (l.own = true → ∀ (j : Nat) (m : Lc), ρ[j]? = some (some m) → m.own = true → σ[j]? ≠ some (some v)) := by
  cases l with
  | d x => exact ⟨⟨v, rfl, h⟩, fun z => by cases z⟩
  | sc u => exact ⟨⟨v, rfl, h⟩, fun z => by cases z⟩
  | ls p xs => obtain ⟨a, rfl, _, z, hf⟩ := h; exact ⟨⟨a, rfl, z⟩, fun _ => hf⟩
  | dk p xs => obtain ⟨a, rfl, _, z, hf⟩ := h; exact ⟨⟨a, rfl, z⟩, fun _ => hf⟩
  | dt p xs => obtain ⟨a, rfl, _, z, hf⟩ := h; exact ⟨⟨a, rfl, z⟩, fun _ => hf⟩
theorem RsOk.store {l : Lc} {v : V} (R : Rel K G ρ F σ H) (h : RsOk K G F H ρ σ l v) (i : Nat) : Rel K G (ρ.set i (some l)) F (σ.set i (some v)) H := R.store i h.slot.1 h.slot.2
theorem LS.asg {i : Nat} {x : Str} {pos' : Pos} (hN : X.N.Nodup) (hi : X.N[i]? = some x) (hx : Loc X.env.scope x) (h : LF X e tf) (hs : swapsWith e (some (.Name x pos')) pos.line X.env = pure false := by rfl)
    (hf : X.fn x = true ∨ X.env.scope.names.lookup x = some .local := by first | exact .inl rfl | exact .inr rfl) : LS X (.Assign [.Name x pos'] e pos) (sAsg i tf) := ⟨psImp (ps_set hN hi hx h.p hs hf) fun D σ H ⟨G, ρ, F, D', R, q, k⟩ =>
  ⟨G, ρ, F, _, R, q, fun l ρ1 v H1 F1 h1 R1 s1 r1 => k.nx _ _ _ _ h1 (r1.store R1 i) s1⟩⟩
/-- two names at once, from the right -/
def sPar (i j : Nat) (t u : TF) : TSt := fun D ρ => t ρ fun l ρ1 => u ρ1 fun m ρ2 => D.nx ((ρ2.set i (some l)).set j (some m))
theorem At.unpin {l : Lc} {b p : Addr} {o : HO} (z : At K (G.pin p o) F H l b) (h0 : G.H0 p = none) (hio : p ∉ G.io) : At K G F H l b ∧ b ≠ p := by
  have hp : (G.pin p o).H0 p = some o := if_pos rfl
  have ow := z.ow
  have nb : b ≠ p := fun q => by
    subst q
    cases e : l.tag with
    | none => rw [e] at ow; have ow : (G.pin b o).H0 b = none := ow; rw [hp] at ow; cases ow
    | some k => rw [e] at ow; exact hio (List.mem_of_getElem? ow)
  refine ⟨⟨z.nf, ?_, z.ob⟩, nb⟩
  cases e : l.tag with
  | none =>
    rw [e] at ow
    have ow : (if b = p then some o else G.H0 b) = none := ow
    rw [if_neg nb] at ow; exact ow
  | some k => rw [e] at ow; exact ow
theorem RsOk.ref_own {l : Lc} {v : V} (ho : l.own = true) : RsOk K G F H ρ σ l v ↔ ∃ a, v = .ref a ∧ l.tag = none ∧ At K G F H l a ∧ ∀ (j : Nat) (m : Lc), ρ[j]? = some (some m) → m.own = true → σ[j]? ≠ some (some (.ref a)) := by
  cases l <;> first | exact Iff.rfl | (simp [Lc.own] at ho)
/-- a result is kept while another thing is done -/
theorem RsOk.keep {l : Lc} {v : V} (R : Rel K G ρ F σ H) (h : RsOk K G F H ρ σ l v) :
    ∃ G', Rel K G' ρ F σ H ∧ ∀ {ρ' F' H'}, Rel K G' ρ' F' σ H' → Same F F' → Rel K G ρ' F' σ H' ∧ RsOk K G F' H' ρ' σ l v ∧
      ∀ {m : Lc} {w : V}, RsOk K G' F' H' ρ' σ m w → RsOk K G F' H' ρ' σ m w ∧ (l.own = true → m.own = true → w ≠ v) := by
  cases ho : l.own with
  | true =>
    rw [RsOk.ref_own ho] at h
    obtain ⟨a, ev, ht, ⟨nf, ow, o, eo, ok⟩, hf⟩ := h
    have n0 : G.H0 a = none := by rw [ht] at ow; exact ow
    have nio : a ∉ G.io := fun z => (R.ih a z).2 n0
    refine ⟨G.pin a o, R.pin nf eo n0 hf, fun {ρ' F' H'} R' s => ?_⟩
    obtain ⟨R2, f2, h2, hf2⟩ := R'.unpin n0 (R.ff.free nf) nio
    refine ⟨R2, (RsOk.ref_own ho).mpr ⟨a, ev, ht, ⟨f2, by rw [ht]; exact n0, o, h2, ok.mono s⟩, hf2⟩, fun {m w} r => ?_⟩
    cases hm : m.own with
    | true =>
      rw [RsOk.ref_own hm] at r ⊢
      obtain ⟨b, ew, hb, z, hf3⟩ := r
      obtain ⟨z1, z2⟩ := z.unpin n0 nio
      exact ⟨⟨b, ew, hb, z1, hf3⟩, fun _ _ q => z2 (by rw [ew, ev] at q; exact V.ref.inj q)⟩
    | false =>
      refine ⟨?_, fun _ z => by cases z⟩
      rcases not_own hm with ⟨x, rfl⟩ | ⟨u, rfl⟩
      · exact r
      · exact r
  | false =>
    refine ⟨G, R, fun {ρ' F' H'} R' s => ⟨R', ?_, fun {m w} r => ⟨r, fun z => by cases z⟩⟩⟩
    rcases not_own ho with ⟨x, rfl⟩ | ⟨u, rfl⟩
    · exact Df.mono s h
    · exact ScOk.mono s h
theorem LS.par {i j : Nat} {x y : Str} {px py pt : Pos} {kt k2 : Nat} {pt2 : Pos} (hc : X.calm = true) (hN : X.N.Nodup) (hi : X.N[i]? = some x) (hj : X.N[j]? = some y) (hij : i ≠ j)
    (hx : X.env.scope.names.lookup x = some .local) (hy : X.env.scope.names.lookup y = some .local) (h1 : LF X e tf) (h2 : LF X e2 tf2)
    (hw : swappedStores [.Tuple [.Name x px, .Name y py] kt pt] (.Tuple [e, e2] k2 pt2) X.env = pure (some [x, y]))
    (hs : swapsWithSole [.Tuple [.Name x px, .Name y py] kt pt] (.Tuple [e, e2] k2 pt2) pos.line X.env = pure false := by rfl)
    (hs1 : starEach [e, e2] X.env = (false, eval e X.env) :: starEach [e2] X.env := by rfl) (hs2 : starEach [e2] X.env = (false, eval e2 X.env) :: starEach [] X.env := by rfl) :
    LS X (.Assign [.Tuple [.Name x px, .Name y py] kt pt] (.Tuple [e, e2] k2 pt2) pos) (sPar i j tf tf2) :=
  ⟨psImp (ps_par hc hN hi hj hij hx hy (pa_cons h1.p (pa_cons h2.p pa_nil hs2) hs1) hw hs) fun D σ H ⟨G, ρ, F, D', R, q, k⟩ =>
    ⟨G, ρ, F, _, R, q, fun l ρ1 v H1 F1 h1 R1 s1 r1 => by
      obtain ⟨G', Rp, back⟩ := r1.keep R1
      exact ⟨G', ρ1, F1, _, Rp, h1, fun m ρ2 w H2 F2 h2 R2 s2 r2 => by
        obtain ⟨R3, r3, both⟩ := back R2 s2
        obtain ⟨r4, ne⟩ := both r2
        refine ⟨v, w, rfl, k.nx _ _ _ _ h2 ?_ (s1.trans s2)⟩
        have R4 := r3.store R3 i
        refine R4.store j r4.slot.1 fun hm jj mm e hmm z => ?_
        rcases set_get e with ⟨rfl, hl, w'⟩ | ⟨hne, e'⟩
        · cases w'
          rw [List.getElem?_set_self (by rw [R3.len]; exact hl)] at z
          exact ne hmm hm (by simpa using z.symm)
        · rw [List.getElem?_set_ne (Ne.symm hne)] at z
          exact r4.slot.2 hm jj mm e' hmm z⟩⟩⟩
end
end DL
/-! The data layer, part f: targets, loops, comprehensions. -/
namespace DL
open PySem L2 PyProof.Rows

section
variable {G : Gm} {X : Cx} {K : PySem.W.Frag} {F F' H H' : Hp} {ρ : En} {σ : L2.St} {e e2 e3 : Expr} {es : List Expr} {pos : Pos} {oa ob oc : Op1} {ta tb : TD} {c : TTd} {st : Stmt} {sts sts2 : List Stmt} {t u : TSt} {tf tf2 : TF} {v : V} {x : PD}

/-! ### targets: a name, a tuple of names -/
inductive Pt where
  | nm (i : Nat)
  | tp (is : List Nat)
  /-- a list's items -/
  | ul (is : List Nat)
def gNames : List Nat → TGs
  | [] => gNil
  | i :: r => gCons (gName i) (gNames r)
def Pt.tg (K : PySem.W.Frag) : Pt → TG
  | .nm i => gName i
  | .tp is => gTup K is.length (gNames is)
  | .ul is => gUnl K is.length (gNames is)
def Pt.slots : Pt → List Nat
  | .nm i => [i]
  | .tp is => is
  | .ul is => is
def setAll : En → List Nat → List PD → En
  | ρ, i :: is, x :: xs => setAll (ρ.set i (some (.d x))) is xs
  | ρ, _, _ => ρ
def Pt.go : Pt → PD → En → (En → Prop) → Prop
  | .nm i, x, ρ, Q => Q (ρ.set i (some (.d x)))
  | .tp is, .tuple xs, ρ, Q => xs.length = is.length ∧ Q (setAll ρ is xs)
  | .tp _, _, _, _ => False
  | .ul is, .list xs, ρ, Q => xs.length = is.length ∧ Q (setAll ρ is xs)
  | .ul _, _, _, _ => False
/-- all but some slots are as they were -/
def Only (is : List Nat) (σ σ' : L2.St) : Prop := σ'.length = σ.length ∧ ∀ j, j ∉ is → σ'[j]? = σ[j]?
theorem only_set {i : Nat} {is : List Nat} {w : Option V} (h : i ∈ is) : Only is σ (σ.set i w) := ⟨List.length_set, fun j hj => List.getElem?_set_ne fun z => hj (by rw [← z]; exact h)⟩
theorem names_go {is js : List Nat} (hs : ∀ i ∈ js, i ∈ is) : ∀ {ρ : En} {σ : L2.St} {vs : List V} {xs : List PD} {Q : L2.St → Hp → Prop}, Rel K G ρ F σ H → DfA K F vs xs → xs.length = js.length →
    (∀ σ2, Rel K G (setAll ρ js xs) F σ2 H → Only is σ σ2 → Q σ2 H) → gNames js vs σ H Q := by
  induction js with
  | nil =>
    intro ρ σ vs xs Q R d hl q
    have e1 : xs = [] := List.length_eq_zero_iff.mp hl
    subst e1
    cases d
    exact ⟨rfl, q σ R ⟨rfl, fun _ _ => rfl⟩⟩
  | cons j js ih =>
    intro ρ σ vs xs Q R d hl q
    cases d with
    | nil => simp at hl
    | cons a b =>
      rename_i v vs x xs
      refine ⟨v, vs, rfl, ?_⟩
      show gNames js vs (σ.set j (some v)) H Q
      refine ih (fun i hi => hs i (List.mem_cons_of_mem _ hi)) (R.store_d j a) b (by simpa using hl) fun σ2 R2 o => q σ2 R2 ?_
      refine ⟨by rw [o.1, List.length_set], fun k hk => ?_⟩
      rw [o.2 k hk]
      exact List.getElem?_set_ne fun z => hk (by rw [← z]; exact hs j List.mem_cons_self)
theorem pt_go (pt : Pt) (R : Rel K G ρ F σ H) (d : Df K F v x) {Q' : En → Prop} (h : pt.go x ρ Q') {Q : L2.St → Hp → Prop} (q : ∀ ρ2 σ2, Q' ρ2 → Rel K G ρ2 F σ2 H → Only pt.slots σ σ2 → Q σ2 H) : pt.tg K v σ H Q := by
  cases pt with
  | nm i => exact q _ _ h (R.store_d i d) (only_set (List.mem_singleton.mpr rfl))
  | tp is =>
    cases d <;> first | exact False.elim h | skip
    rename_i a vs xs hq ds
    obtain ⟨h1, h2⟩ := h
    exact ⟨a, vs, rfl, seqT R.fh hq, by rw [ds.length]; exact h1, names_go (fun i hi => hi) R ds h1 fun σ2 R2 o => q _ σ2 h2 R2 o⟩
  | ul is =>
    cases d <;> first | exact False.elim h | skip
    rename_i a vs xs hq ds
    obtain ⟨h1, h2⟩ := h
    exact ⟨a, vs, rfl, rdSq (rdM R.fh hq), by rw [ds.length]; exact h1, names_go (fun i hi => hi) R ds h1 fun σ2 R2 o => q _ σ2 h2 R2 o⟩
/-- a, b = e (e gives a tuple) -/
def sUnp (pt : Pt) (t : TD) : TSt := fun D ρ => t ρ fun x ρ1 => pt.go x ρ1 D.nx
theorem LS.unp {tg : Expr} {pt : Pt} (hg : PG X tg (pt.tg X.K)) (h : LD X e ta) (hs : swapsWithSole [tg] e pos.line X.env = pure false := by rfl) (hw : swappedStores [tg] e X.env = pure none := by rfl)
    (h1 : (assignEach [tg] X.env).map (·.2) = [assign tg X.env] := by rfl) : LS X (.Assign [tg] e pos) (sUnp pt ta) := ⟨psImp (ps_asg h.p hg hs hw h1) fun D σ H ⟨G, ρ, F, D', R, q, k⟩ =>
  ⟨G, ρ, F, _, R, q, fun x ρ1 v H1 F1 h1 R1 s1 d => pt_go pt R1 d h1 fun ρ2 σ2 q2 R2 _ => k.nx _ _ _ _ q2 R2 s1⟩⟩

/-! ### own lists are changed -/
/-- xs[i] = e, xs an own list -/
def sSetL (s : Nat) (oi : Op1) (t : TD) : TSt := fun D ρ => t ρ fun x ρ1 => match ρ1[s]? with
  | some (some _) => oi.run ρ1 fun a ρ2 => res1 ρ2 a fun y => (match y, ρ2[s]? with
    | .int i, some (some (.ls p xs)) => ∃ j, ixN xs.length i = some j ∧ D.nx (ρ2.set s (some (.ls p (xs.set j x))))
    | _, _ => False)
  | _ => False
theorem Rel.own_ls (R : Rel K G ρ F σ H) {s : Nat} {p : Option Nat} {xs : List PD} (er : ρ[s]? = some (some (.ls p xs))) : ∃ a vs, σ[s]? = some (some (.ref a)) ∧ H a = some (.lst vs) ∧ DfA K F vs xs := by
  obtain ⟨a, es, nf, ow, o, eo, ok⟩ := R.at_ er rfl
  cases o <;> first | exact False.elim ok | exact ⟨a, _, es, eo, ok⟩
theorem LS.setL {s : Nat} {o i : Expr} {p2 : Pos} (h : LD X e ta) (hg : PG X (.Subscript o i p2) (gSub (tVar s) (liftO X.K oa) rSetL))
    (hs : swapsWithSole [.Subscript o i p2] e pos.line X.env = pure false := by rfl) (hw : swappedStores [.Subscript o i p2] e X.env = pure none := by rfl)
    (h1 : (assignEach [.Subscript o i p2] X.env).map (·.2) = [assign (.Subscript o i p2) X.env] := by rfl) : LS X (.Assign [.Subscript o i p2] e pos) (sSetL s oa ta) := ⟨psImp (ps_asg h.p hg hs hw h1) fun D σ H ⟨G, ρ, F, D', R, q, k⟩ =>
  ⟨G, ρ, F, _, R, q, fun x ρ1 v H1 F1 h1 R1 s1 d => by
    split at h1
    · rename_i l er
      obtain ⟨w, ew⟩ := (R1.sl s _ er).some
      refine ⟨w, ew, G, ρ1, F1, _, R1, h1, fun a ρ2 vi H2 F2 h2 R2 s2 av => ?_⟩
      obtain ⟨y, h3, dy⟩ := res1_dr R2 av h2
      split at h3
      · rename_i i p xs er2
        obtain ⟨j, hj, h4⟩ := h3
        obtain ⟨b, vs, es, eb, dv⟩ := R2.own_ls er2
        rw [es] at ew
        have ew : w = .ref b := by simpa using ew.symm
        subst ew
        rw [dy.int]
        refine ⟨b, vs, i, j, rfl, rfl, eb, by rw [dv.length]; exact hj, k.nx _ _ _ _ h4 ?_ (s1.trans s2)⟩
        exact R2.write er2 rfl es (m := .ls p (xs.set j x)) (dv.set j (d.mono s2)) rfl
      · exact False.elim h3
    · exact False.elim h1⟩⟩
/-- xs.append(e); xs.extend(ys); xs.pop() as a value -/
def sApp (s : Nat) (t : TD) : TSt := fun D ρ => match ρ[s]? with
  | some (some (.ls _ _)) => t ρ fun x ρ1 => (match ρ1[s]? with
    | some (some (.ls p xs)) => xs.length < sizeLine ∧ D.nx (ρ1.set s (some (.ls p (xs ++ [x]))))
    | _ => False)
  | _ => False
theorem LS.app {s : Nat} (h : PE X e (tBM X.K "list" rAppend (tVar s) (tCons (liftD X.K ta) tNil))) (hs : swapsWith e none pos.line X.env = pure false := by rfl) : LS X (.Expr e pos) (sApp s ta) := ⟨psImp (ps_expr h hs) fun D σ H ⟨G, ρ, F, D', R, q, k⟩ => by
  unfold sApp at q
  split at q
  · rename_i p0 ys er
    obtain ⟨a, us, es, ea, _⟩ := R.own_ls er
    refine ⟨_, es, .inl ⟨rfl, us, SqL.of ea⟩, G, ρ, F, _, R, q, fun x ρ1 v H1 F1 h1 R1 s1 d => ?_⟩
    split at h1
    · rename_i p xs er1
      obtain ⟨b, vs, es1, eb, dv⟩ := R1.own_ls er1
      rw [es] at es1
      have eab : a = b := by simpa using es1
      subst eab
      refine ⟨a, vs, v, rfl, rfl, eb, by rw [dv.length]; exact h1.1, k.nx _ _ _ _ h1.2 ?_ s1⟩
      exact R1.write er1 rfl es (m := .ls p (xs ++ [x])) (dv.snoc d) rfl
    · exact False.elim h1
  · exact False.elim q⟩
def rExtD : V → List V → Hp → VK → Prop := fun x vs H Q => ∃ l b xs zs, x = .ref l ∧ vs = [.ref b] ∧ H l = some (.lst xs) ∧ Rd H b (.lst zs) ∧ xs.length + zs.length ≤ sizeLine ∧ Q .non (upd H l (.lst (xs ++ zs)))
theorem mt_extD : MtR X "list.extend" rExtD := by
  intro pins s σ H x vs v us Q I rx rv ⟨l, b, xs, zs, ex, ev, hH, hB, hz, q⟩
  subst ex ev
  cases rx
  obtain ⟨u, rfl, ru⟩ := rv.one
  cases ru
  obtain ⟨z, is1, n, r, hl, e⟩ := I.lstM hH
  obtain ⟨z2, is2, n2, r2, hl2, e2⟩ := rd_list I hB
  have hsz : is1.toArray.size + is2.toArray.size ≤ sizeLine := by simp only [List.size_toArray]; omega
  have hlong : ¬ (!is1.toArray.isEmpty && Builtin.List.listTooLong (is1.toArray.size + is2.toArray.size)) = true := by
    simp only [notLongL hsz, Bool.and_false]; exact Bool.false_ne_true
  refine call_meets F.slot_list_extend ⟨_, e, rfl⟩ F.entry_list_extend (F.args_list_extend_2 _ _) (AutoSeq1.list_extend_list_list_0 l is1.toArray n b is2.toArray n2 hlong
    (by simp only [List.size_toArray]; omega) (by omega)) ⟨e, e2, .non, _, I.lset (its' := is1 ++ is2) hH e (by simp) (r.append r2) ?_, rfl, q⟩
  simp only [List.length_append]; exact hz
def sExt (s : Nat) (o : Op1) : TSt := fun D ρ => match ρ[s]? with
  | some (some (.ls _ _)) => o.run ρ fun a ρ1 => res1 ρ1 a fun y => (match y, ρ1[s]? with
    | .list ys, some (some (.ls p xs)) => xs.length + ys.length ≤ sizeLine ∧ D.nx (ρ1.set s (some (.ls p (xs ++ ys))))
    | _, _ => False)
  | _ => False
theorem LS.ext {s : Nat} (h : PE X e (tBM X.K "list" rExtD (tVar s) (tCons (liftO X.K oa) tNil))) (hs : swapsWith e none pos.line X.env = pure false := by rfl) : LS X (.Expr e pos) (sExt s oa) := ⟨psImp (ps_expr h hs) fun D σ H ⟨G, ρ, F, D', R, q, k⟩ => by
  unfold sExt at q
  split at q
  · rename_i p0 ys er
    obtain ⟨a, us, es, ea, _⟩ := R.own_ls er
    refine ⟨_, es, .inl ⟨rfl, us, SqL.of ea⟩, G, ρ, F, _, R, q, fun av ρ1 v H1 F1 h1 R1 s1 d => ?_⟩
    obtain ⟨y, h2, dy⟩ := res1_dr R1 d h1
    split at h2
    · rename_i zs p xs er1
      obtain ⟨b, vs, es1, eb, dv⟩ := R1.own_ls er1
      rw [es] at es1
      have eab : a = b := by simpa using es1
      subst eab
      obtain ⟨c, ws, rfl, ec, dw⟩ := dy.lst R1.fh
      refine ⟨a, c, vs, ws, rfl, rfl, eb, ec, by rw [dv.length, dw.length]; exact h2.1, k.nx _ _ _ _ h2.2 ?_ s1⟩
      exact R1.write er1 rfl es (m := .ls p (xs ++ zs)) (dv.append dw) rfl
    · exact False.elim h2
  · exact False.elim q⟩
def dPop (s : Nat) : TD := fun ρ Q => match ρ[s]? with
  | some (some (.ls p xs)) => ∃ y, xs[xs.length - 1]? = some y ∧ Q y (ρ.set s (some (.ls p xs.dropLast)))
  | _ => False
theorem DfA.dropLast {vs : List V} {ds : List PD} (h : DfA K F vs ds) : DfA K F vs.dropLast ds.dropLast := by
  rw [List.dropLast_eq_take, List.dropLast_eq_take, h.length]; exact h.take _
theorem LD.pop {s : Nat} (h : PE X e (tBM0 X.K "list" rPop (tVar s))) : LD X e (dPop s) := ⟨peImp h fun σ H Q ⟨G, ρ, F, Q', R, q, c⟩ => by
  unfold dPop at q
  split at q
  · rename_i p xs er
    obtain ⟨a, vs, es, ea, dv⟩ := R.own_ls er
    obtain ⟨y, hy, q⟩ := q
    obtain ⟨w, hw, dw⟩ := dv.get hy
    refine ⟨_, es, .inl ⟨rfl, vs, SqL.of ea⟩, a, vs, w, rfl, rfl, ea, by rw [dv.length]; exact hw, c _ _ _ _ _ q ?_ (Same.refl _) dw⟩
    exact R.write er rfl es (m := .ls p xs.dropLast) dv.dropLast rfl
  · exact False.elim q⟩
/-- x op= e -/
def sAug (s : Nat) (f : F2) (o : Op1) : TSt := fun D ρ => match ρ[s]? with
  | some (some (.d x)) => o.run ρ fun a ρ1 => res1 ρ1 a fun y => f x y fun z => D.nx (ρ1.set s (some (.d z)))
  | _ => False
theorem LS.aug {s : Nat} {n : Str} {op : Operator} {pos' : Pos} {f : F2} {r : R2} (hN : X.N.Nodup) (hi : X.N[s]? = some n) (hx : Loc X.env.scope n) (ho : OpR X (inplaceOp op) r) (hf : Op2Ok X.K f r) (h : LO X e oa)
    (hfn : X.fn n = true ∨ X.env.scope.names.lookup n = some .local := by first | exact .inl rfl | exact .inr rfl) : LS X (.AugAssign (.Name n pos') op e pos) (sAug s f oa) := ⟨psImp (ps_aug (ti := r) hN hi hx h.p ho hfn) fun D σ H ⟨G, ρ, F, D', R, q, k⟩ => by
  unfold sAug at q
  split at q
  · rename_i x er
    obtain ⟨w, ew, dw⟩ := R.sl s _ er
    refine ⟨w, ew, G, ρ, F, _, R, q, fun av ρ1 v H1 F1 h1 R1 s1 d => ?_⟩
    obtain ⟨y, h2, dy⟩ := res1_dr R1 d h1
    refine hf F1 H1 w v x y _ _ R1.fh (.f (dw.mono s1)) dy h2 fun z u F2 H2 kz g dz => k.nx _ _ _ _ kz ?_ (s1.trans g.ff)
    exact (R1.grow g).store_d s dz
  · exact False.elim q⟩
theorem iop_add : OpR X (inplaceOp .Add) (rI0 fun i j => .int (i + j)) := opI0 fun _ _ _ _ _ _ _ q => PyProof.Rows.iadd_int q
theorem iop_sub : OpR X (inplaceOp .Sub) (rI0 fun i j => .int (i - j)) := opI0 fun _ _ _ _ _ _ _ q => PyProof.Rows.isub_int q
theorem iop_mul : OpR X (inplaceOp .Mult) (rI IntMulOk fun i j => .int (i * j)) := opI fun _ _ _ _ _ _ _ hc q => PySem.P.imul_int q hc
def bAddI : F2
  | .int i, .int j, k => k (.int (i + j))
  | _, _, _ => False
theorem ok_addI : Op2Ok K bAddI (rI0 fun i j => .int (i + j)) := by
  intro F H vx vy x y k Q s dx dy h c
  unfold bAddI at h
  split at h
  · rw [dx.int, dy.int]
    exact ⟨_, _, rfl, rfl, c _ _ F H h (Grow.refl s) (.int _)⟩
  · exact False.elim h
end
end DL
/-! The data layer, part g: loops, comprehensions. -/
namespace DL
open PySem L2 PyProof.Rows

theorem piImp {X : Cx} {tg e : Expr} {t t' : TI} (h : PI X tg e t) (w : ∀ σ H R, t' σ H R → t σ H R) : PI X tg e t' := ⟨fun pins s σ H R I q => h.run pins s σ H R I (w _ _ _ q)⟩

section
variable {G : Gm} {X : Cx} {K : PySem.W.Frag} {F F' H H' : Hp} {ρ : En} {σ : L2.St} {e e2 e3 tg : Expr} {es : List Expr} {pos : Pos} {oa ob oc : Op1} {ta tb : TD} {c : TTd} {st : Stmt} {sts sts2 : List Stmt} {t u : TSt} {tf tf2 : TF} {v : V} {x : PD}

/-! ### while: a word and a measure -/
def sWhile (c : TTd) (b : TSt) : TSt := fun D ρ => ∃ (I : En → Prop) (μ : En → Nat), I ρ ∧ ∀ ρ, I ρ → c ρ fun k ρ1 => brB k (b { D with nx := fun ρ' => I ρ' ∧ μ ρ' < μ ρ, ct := fun ρ' => I ρ' ∧ μ ρ' < μ ρ, bk := D.nx } ρ1) (D.nx ρ1)
theorem LS.while (hp : PassesOwn (model X.prog X.w) X.A X.env X.xe) (h : LT X e c) (hb : LSs X sts t) : LS X (.While e sts [] pos) (sWhile c t) := ⟨psImp (ps_while hp h.p hb.p) fun D σ H ⟨G, ρ, F, D', R, ⟨I, μ, i0, turn⟩, k⟩ => by
  refine ⟨fun m σ H => ∃ ρ F', Rel X.K G ρ F' σ H ∧ Same F F' ∧ I ρ ∧ m = μ ρ, ⟨μ ρ, ρ, F, R, Same.refl _, i0, rfl⟩, ?_⟩
  rintro m σ1 H1 ⟨ρ1, F1, R1, s1, i1, rfl⟩
  refine ⟨G, ρ1, F1, _, R1, turn ρ1 i1, fun b ρ2 H2 F2 h2 R2 s2 => ?_⟩
  cases b with
  | false => exact iteF (k.nx _ _ _ _ (h2.2 rfl) R2 (s1.trans s2))
  | true =>
    refine iteT ⟨fun σ' H' => ∃ ρ' F', Rel X.K G ρ' F' σ' H' ∧ Same F F' ∧ I ρ' ∧ μ ρ' < μ ρ1, fun σ' H' ⟨ρ', F', R', s', i', l⟩ => ⟨μ ρ', l, ρ', F', R', s', i', rfl⟩, ?_⟩
    have s12 := s1.trans s2
    exact ⟨G, ρ2, F2, _, R2, h2.1 rfl, ⟨fun ρ3 σ3 H3 F3 h R s => ⟨ρ3, F3, R, s12.trans s, h.1, h.2⟩, fun l ρ3 v σ3 H3 F3 h R s r => k.rt _ _ _ _ _ _ h R (s12.trans s) r,
      fun ρ3 σ3 H3 F3 h R s => k.nx _ _ _ _ h R (s12.trans s), fun ρ3 σ3 H3 F3 h R s => ⟨ρ3, F3, R, s12.trans s, h.1, h.2⟩⟩⟩⟩

/-! ### what is walked -/
/-- fixed items; or the own list in a slot, which stays -/
inductive Wk where
  | items (xs : List PD)
  | own (s : Nat) (p : Option Nat) (xs : List PD)
def Wk.list : Wk → List PD
  | .items xs => xs
  | .own _ _ xs => xs
def Wk.keeps (ρ : En) : Wk → Prop
  | .items _ => True
  | .own s p xs => ρ[s]? = some (some (.ls p xs))
def Wk.keepS (σ σ1 : L2.St) : Wk → Prop
  | .items _ => True
  | .own s _ _ => σ[s]? = σ1[s]?
abbrev TId := En → (Wk → En → Prop) → Prop
def WkOk (K : PySem.W.Frag) (J : It) (w : Wk) (F1 : Hp) (σ1 : L2.St) : Prop := ∀ (G : Gm) (i : Nat) (ρ : En) (F : Hp) (σ : L2.St) (H : Hp), Rel K G ρ F σ H → Same F1 F → w.keeps ρ → w.keepS σ σ1 →
  (w.list.length ≤ i → J.stop i H) ∧ (i < w.list.length → J.go i H ∧ ∀ x H', J.yld i H x H' → ∃ F' d, Grow F H F' H' ∧ w.list[i]? = some d ∧ Df K F' x d)
def liftI (K : PySem.W.Frag) (t : TId) : TI := fun σ H R => ∃ G ρ F Q', Rel K G ρ F σ H ∧ t ρ Q' ∧ ∀ w ρ1 H1 F1 J, Q' w ρ1 → Rel K G ρ1 F1 σ H1 → Same F F1 → WkOk K J w F1 σ → R J H1
structure LI (X : Cx) (tg e : Expr) (t : TId) : Prop where
  p : PI X tg e (liftI X.K t)
/-- a list or a tuple -/
def iSeqH (K : PySem.W.Frag) (tl : TE) : TI := fun σ H R => tl σ H fun x H1 => (∃ a xs, x = .ref a ∧ SqL K H1 a xs ∧ R (Itl K a) H1) ∨ (∃ a xs, x = .ref a ∧ SqT K H1 a xs ∧ R (Itt K a) H1)
theorem pi_seq {tl : TE} (hl : PE X e tl) : PI X tg e (iSeqH X.K tl) := by
  refine ⟨fun pins s σ H R I h => thn (hl.run pins s σ H _ I h) fun u s1 ⟨x, H1, I1, r1, q1⟩ => ?_⟩
  have fp : ∀ b ∈ [s1.heap.objs.size], FpOk X pins H1 b := fun b hb => by rw [List.mem_singleton.mp hb]; exact I1.fpOk (Nat.le_refl _) (I1.hok.fresh (Nat.le_refl _))
  rcases q1 with ⟨a, xs, ex, hq, q⟩ | ⟨a, xs, ex, hq, q⟩ <;> subst ex <;> cases r1
  · obtain ⟨its, _, pl, _⟩ := I1.list hq
    exact wpAny_pyIter_list pl.isList ⟨_, _, _, _, H1, rfl, I1.kept (t' := s1.toks) (fun b o w => Heap.get?_push_of_some _ w), turn_list a _, ⟨_, Heap.get?_push_size _ rfl, rfl, rfl⟩, fp, q⟩
  · obtain ⟨its, _, pl, _⟩ := I1.tuple hq
    exact wpAny_pyIter_tuple (show s1.heap.IsTuple a its.toArray from pl) ⟨_, _, _, _, H1, rfl, I1.kept (t' := s1.toks) (fun b o w => Heap.get?_push_of_some _ w), turn_tuple a _, ⟨_, Heap.get?_push_size _ rfl, rfl, rfl⟩, fp, q⟩
/-- over what an expression gives, frozen -/
def iSeq (t : TD) : TId := fun ρ Q => t ρ fun x ρ1 => match x with
  | .list xs => Q (.items xs) ρ1
  | .tuple xs => Q (.items xs) ρ1
  | _ => False
theorem wk_list {a : Addr} {vs : List V} {xs : List PD} {F1 : Hp} {σ1 : L2.St} (hq : Rd F1 a (.lst vs)) (ds : DfA K F1 vs xs) : WkOk K (Itl K a) (.items xs) F1 σ1 := by
  intro G i ρ F σ H R s _ _
  have q : SqL K H a vs := .inl (rdM R.fh (rdM s hq))
  have hl : vs.length = xs.length := ds.length
  refine ⟨fun h => ⟨vs, q, by rw [hl]; exact h⟩, fun h => ?_⟩
  obtain ⟨d, hd⟩ : ∃ d, xs[i]? = some d := ⟨xs[i]'h, List.getElem?_eq_getElem h⟩
  obtain ⟨v, hv, dv⟩ := ds.get hd
  refine ⟨⟨vs, v, q, hv⟩, fun x H' y => ?_⟩
  obtain ⟨rfl, y⟩ := y
  have := y vs q
  rw [hv] at this
  cases this
  exact ⟨F, d, Grow.refl R.fh, hd, dv.mono s⟩
theorem wk_tup {a : Addr} {vs : List V} {xs : List PD} {F1 : Hp} {σ1 : L2.St} (hq : SqT K F1 a vs) (ds : DfA K F1 vs xs) : WkOk K (Itt K a) (.items xs) F1 σ1 := by
  intro G i ρ F σ H R s _ _
  have q : SqT K H a vs := seqT R.fh (seqT s hq)
  have hl : vs.length = xs.length := ds.length
  refine ⟨fun h => ⟨vs, q, by rw [hl]; exact h⟩, fun h => ?_⟩
  obtain ⟨d, hd⟩ : ∃ d, xs[i]? = some d := ⟨xs[i]'h, List.getElem?_eq_getElem h⟩
  obtain ⟨v, hv, dv⟩ := ds.get hd
  refine ⟨⟨vs, v, q, hv⟩, fun x H' y => ?_⟩
  obtain ⟨rfl, y⟩ := y
  have := y vs q
  rw [hv] at this
  cases this
  exact ⟨F, d, Grow.refl R.fh, hd, dv.mono s⟩
theorem LI.seq (h : LD X e ta) : LI X tg e (iSeq ta) := ⟨piImp (pi_seq h.p) fun σ H R ⟨G, ρ, F, Q', Rl, q, c⟩ => ⟨G, ρ, F, _, Rl, q, fun x ρ1 v H1 F1 h1 R1 s1 d => by
  split at h1
  · cases d with
    | lst hq ds => exact .inl ⟨_, _, rfl, rdSq (rdM R1.fh hq), c _ _ _ _ _ h1 R1 s1 (wk_list hq ds)⟩
  · cases d with
    | tup hq ds => exact .inr ⟨_, _, rfl, seqT R1.fh hq, c _ _ _ _ _ h1 R1 s1 (wk_tup hq ds)⟩
  · exact False.elim h1⟩⟩
/-- over a name: its own list stays where it is -/
def iOwn (s : Nat) : TId := fun ρ Q => match ρ[s]? with
  | some (some (.ls p xs)) => Q (.own s p xs) ρ
  | some (some (.d (.list xs))) => Q (.items xs) ρ
  | some (some (.d (.tuple xs))) => Q (.items xs) ρ
  | _ => False
theorem wk_own {a : Addr} {s : Nat} {p : Option Nat} {xs : List PD} {F1 : Hp} {σ1 : L2.St} (es : σ1[s]? = some (some (.ref a))) : WkOk K (Itl K a) (.own s p xs) F1 σ1 := by
  intro G i ρ F σ H R _ hk hs
  obtain ⟨b, vs, eb, hb, ds⟩ := R.own_ls (show ρ[s]? = some (some (.ls p xs)) from hk)
  have hs : σ[s]? = σ1[s]? := hs
  rw [hs, es] at eb
  have eab : a = b := by simpa using eb
  subst eab
  have q : SqL K H a vs := SqL.of hb
  have hl : vs.length = xs.length := ds.length
  refine ⟨fun h => ⟨vs, q, by rw [hl]; exact h⟩, fun h => ?_⟩
  have h : i < xs.length := h
  obtain ⟨d, hd⟩ : ∃ d, xs[i]? = some d := ⟨xs[i]'h, List.getElem?_eq_getElem h⟩
  obtain ⟨v, hv, dv⟩ := ds.get hd
  refine ⟨⟨vs, v, q, hv⟩, fun x H' y => ?_⟩
  obtain ⟨rfl, y⟩ := y
  have := y vs q
  rw [hv] at this
  cases this
  exact ⟨F, d, Grow.refl R.fh, hd, dv⟩
theorem LI.own (s : Nat) (h : PE X e (tVar s)) : LI X tg e (iOwn s) := ⟨piImp (pi_seq h) fun σ H R ⟨G, ρ, F, Q', Rl, q, c⟩ => by
  unfold iOwn at q
  split at q
  · rename_i p xs er
    obtain ⟨a, vs, es, ha, ds⟩ := Rl.own_ls er
    exact ⟨_, es, .inl ⟨a, vs, rfl, SqL.of ha, c _ _ _ _ _ q Rl (Same.refl _) (wk_own es)⟩⟩
  · rename_i xs er
    obtain ⟨v, es, d⟩ := Rl.sl s _ er
    cases d with
    | lst hq ds => exact ⟨_, es, .inl ⟨_, _, rfl, rdSq (rdM Rl.fh hq), c _ _ _ _ _ q Rl (Same.refl _) (wk_list hq ds)⟩⟩
  · rename_i xs er
    obtain ⟨v, es, d⟩ := Rl.sl s _ er
    cases d with
    | tup hq ds => exact ⟨_, es, .inr ⟨_, _, rfl, seqT Rl.fh hq, c _ _ _ _ _ q Rl (Same.refl _) (wk_tup hq ds)⟩⟩
  · exact False.elim q⟩
/-- range(n), range(a, b) -/
def rngD (lo : Int) (n : Nat) : List PD := (List.range n).map fun i => .int (lo + (i : Nat))
theorem wk_range {lo : Int} {n : Nat} {F1 : Hp} {σ1 : L2.St} : WkOk K (Itr lo n) (.items (rngD lo n)) F1 σ1 := by
  intro G i ρ F σ H R s _ _
  have hl : (rngD lo n).length = n := by unfold rngD; rw [List.length_map, List.length_range]
  refine ⟨fun h => by show n ≤ i; have h : (rngD lo n).length ≤ i := h; omega, fun h => ?_⟩
  have h : i < (rngD lo n).length := h
  rw [hl] at h
  refine ⟨h, fun x H' y => ?_⟩
  obtain ⟨rfl, rfl⟩ := y
  refine ⟨F, .int (lo + (i : Nat)), Grow.refl R.fh, ?_, .int _⟩
  show (rngD lo n)[i]? = _
  unfold rngD
  rw [List.getElem?_map, List.getElem?_range h]
  rfl
def iRg (t : TAd) : TId := fun ρ Q => t ρ fun as ρ1 => resA ρ1 as fun xs => match xs with
  | [.int j] => (-(2 ^ 62) ≤ j ∧ j < 2 ^ 62) ∧ Q (.items (rngD 0 j.toNat)) ρ1
  | [.int i, .int j] => (-(2 ^ 62) ≤ i ∧ i < 2 ^ 62 ∧ -(2 ^ 62) ≤ j ∧ j < 2 ^ 62) ∧ Q (.items (rngD i (j - i).toNat)) ρ1
  | _ => False
variable {p : Pos} {tt : TAd}
theorem LI.range1 (hg : Gl X "range") (hm : X.mg "range" = none) (ha : LA X [e] tt) (hs : starEach [e] X.env = [(false, eval e X.env)] := by rfl) : LI X tg (.Call (.Name "range" p) [e] [] pos) (iRg tt) :=
  ⟨piImp (pi_range1 hg hm ha.p hs) fun σ H R ⟨G, ρ, F, Q', Rl, q, c⟩ => ⟨G, ρ, F, _, Rl, q, fun as ρ1 vs H1 F1 h1 hl R1 s1 av => by
    obtain ⟨xs, h2, d⟩ := resA_dr R1 av h1
    split at h2
    · obtain ⟨w, rfl, d1⟩ := d.one
      rw [d1.int]
      exact ⟨_, rfl, h2.1.1, h2.1.2, c _ _ _ _ _ h2.2 R1 s1 wk_range⟩
    · have := av.length
      obtain ⟨w1, w2, rfl, _, _⟩ := d.two
      rw [hl] at this; simp at this
    · exact False.elim h2⟩⟩
theorem LI.range2 (hg : Gl X "range") (hm : X.mg "range" = none) (ha : LA X [e, e2] tt) (hs : starEach [e, e2] X.env = [(false, eval e X.env), (false, eval e2 X.env)] := by rfl) (hs2 : starEach [e2] X.env = [(false, eval e2 X.env)] := by rfl) :
    LI X tg (.Call (.Name "range" p) [e, e2] [] pos) (iRg tt) :=
  ⟨piImp (pi_range2 hg hm ha.p hs hs2) fun σ H R ⟨G, ρ, F, Q', Rl, q, c⟩ => ⟨G, ρ, F, _, Rl, q, fun as ρ1 vs H1 F1 h1 hl R1 s1 av => by
    obtain ⟨xs, h2, d⟩ := resA_dr R1 av h1
    split at h2
    · have := av.length
      obtain ⟨w1, rfl, _⟩ := d.one
      rw [hl] at this; simp at this
    · obtain ⟨w, w2, rfl, d1, d2⟩ := d.two
      rw [d1.int, d2.int]
      exact ⟨_, _, rfl, h2.1, c _ _ _ _ _ h2.2 R1 s1 wk_range⟩
    · exact False.elim h2⟩⟩
/-- pairs, each a new tuple -/
theorem wk_pair {J : It} {f : Nat → Option V} {g : Nat → Option V} {F1 : Hp} {σ1 : L2.St} {a b : List PD} {n : Nat} {xs : List PD} (hl : xs.length = n)
    (hst : ∀ i F H, Same F1 F → Same F H → n ≤ i → J.stop i H) (hgo : ∀ i F H, Same F1 F → Same F H → i < n → J.go i H)
    (hy : ∀ i F H x H', Same F1 F → Same F H → i < n → J.yld i H x H' → ∃ T u w d1 d2, x = .ref T ∧ H T = none ∧ H' = upd H T (.tup [u, w]) ∧ Df K F1 u d1 ∧ Df K F1 w d2 ∧ xs[i]? = some (.tuple [d1, d2])) : WkOk K J (.items xs) F1 σ1 := by
  intro G i ρ F σ H R s _ _
  refine ⟨fun h => hst i F H s R.fh (by have h : xs.length ≤ i := h; omega), fun h => ?_⟩
  have h : i < xs.length := h
  rw [hl] at h
  refine ⟨hgo i F H s R.fh h, fun x H' y => ?_⟩
  obtain ⟨T, u, w, d1, d2, rfl, hT, rfl, q1, q2, e⟩ := hy i F H x H' s R.fh h y
  have g := Grow.frozen R.fh hT (.tup [u, w])
  exact ⟨_, _, g, e, .tup (SqT.of upd_same) (.cons ((q1.mono s).mono g.ff) (.cons ((q2.mono s).mono g.ff) .nil))⟩
/-- enumerate of a list -/
def enumD (xs : List PD) : List PD := (List.range xs.length).map fun i => .tuple [.int (i : Nat), xs.getD i .none]
def iEnm (t : TD) : TId := fun ρ Q => t ρ fun x ρ1 => match x with
  | .list xs => Q (.items (enumD xs)) ρ1
  | _ => False
theorem enumD_get {xs : List PD} {i : Nat} {d : PD} (h : xs[i]? = some d) : (enumD xs)[i]? = some (.tuple [.int (i : Nat), d]) := by
  unfold enumD
  have hi := (List.getElem?_eq_some_iff.mp h).1
  rw [List.getElem?_map, List.getElem?_range hi]
  simp [List.getD_eq_getElem?_getD, h]
theorem LI.enum {elts : List Expr} {kk : Nat} {tpos : Pos} (hg : Gl X "enumerate") (hm : X.mg "enumerate" = none) (h : LD X e ta) (hs : starEach [e] X.env = [(false, eval e X.env)] := by rfl) :
    LI X (.Tuple elts kk tpos) (.Call (.Name "enumerate" p) [e] [] pos) (iEnm ta) :=
  ⟨piImp (pi_enum hg hm (pa_cons h.p pa_nil hs) hs) fun σ H R ⟨G, ρ, F, Q', Rl, q, c⟩ => ⟨G, ρ, F, _, Rl, q, fun x ρ1 v H1 F1 h1 R1 s1 d => by
    split at h1
    · rename_i xs
      cases d with
      | lst hq ds =>
        rename_i a vs
        have hl : vs.length = xs.length := ds.length
        refine ⟨a, vs, rfl, rdSq (rdM R1.fh hq), c _ _ _ _ _ h1 R1 s1 (wk_pair (f := fun _ => none) (g := fun _ => none) (a := []) (b := []) (n := xs.length) (by unfold enumD; simp) ?_ ?_ ?_)⟩
        · exact fun i F H s s2 hi => ⟨vs, rdSq (rdM s2 (rdM s hq)), by omega⟩
        · intro i F H s s2 hi
          exact ⟨vs, vs[i]'(by omega), rdSq (rdM s2 (rdM s hq)), List.getElem?_eq_getElem _⟩
        · intro i F H x H' s s2 hi ⟨T, u, e1, hT, e2, hu⟩
          have hu := hu vs (rdSq (rdM s2 (rdM s hq)))
          obtain ⟨d, hd, du⟩ := ds.get' hu
          exact ⟨T, _, u, .int (i : Nat), d, e1, hT, e2, .int _, du, enumD_get hd⟩
    · exact False.elim h1⟩⟩
/-- zip of two lists, of two tuples -/
def zipD (xs ys : List PD) : List PD := List.zipWith (fun a b => .tuple [a, b]) xs ys
def iZp (t : TAd) : TId := fun ρ Q => t ρ fun as ρ1 => resFA ρ1 as fun xs => match xs with
  | [.list xs, .list ys] => Q (.items (zipD xs ys)) ρ1
  | [.tuple xs, .tuple ys] => Q (.items (zipD xs ys)) ρ1
  | _ => False
theorem zipD_get {xs ys : List PD} {i : Nat} {d d2 : PD} (h : xs[i]? = some d) (h2 : ys[i]? = some d2) : (zipD xs ys)[i]? = some (.tuple [d, d2]) := by
  unfold zipD
  rw [List.getElem?_zipWith, h, h2]
theorem LI.zip {elts : List Expr} {kk : Nat} {tpos : Pos} (hg : Gl X "zip") (hm : X.mg "zip" = none) (h : LA X [e, e2] tt)
    (hs : starEach [e, e2] X.env = (false, eval e X.env) :: starEach [e2] X.env := by rfl) (hpl : (backTo pos (starEach [e2] X.env)).any (·.1) = false := by rfl) :
    LI X (.Tuple elts kk tpos) (.Call (.Name "zip" p) [e, e2] [] pos) (iZp tt) :=
  ⟨piImp (RZ.pi_zipA hg hm h.p hs hpl) fun σ H R ⟨G, ρ, F, Q', Rl, q, c⟩ => ⟨G, ρ, F, _, Rl, q, fun as ρ1 us H1 F1 h1 hln R1 s1 av => by
    obtain ⟨zs, h2, dz⟩ := resFA_df R1 av h1
    split at h2
    · rename_i xs ys
      cases dz with | cons d dz => cases dz with | cons d2 dz => cases dz; cases d with | lst hq ds => cases d2 with | lst hq2 ds2 =>
        rename_i a vs b ws
        have hl : vs.length = xs.length := ds.length
        have hl2 : ws.length = ys.length := ds2.length
        refine ⟨a, b, vs, ws, rfl, .inl ⟨rdSq (rdM R1.fh hq), rdSq (rdM R1.fh hq2), c _ _ _ _ _ h2 R1 s1 (wk_pair (f := fun _ => none) (g := fun _ => none) (a := []) (b := []) (n := min xs.length ys.length) (by unfold zipD; simp) ?_ ?_ ?_)⟩⟩
        · exact fun i F H s s2 hi => ⟨vs, ws, rdSq (rdM s2 (rdM s hq)), rdSq (rdM s2 (rdM s hq2)), by omega⟩
        · intro i F H s s2 hi
          exact ⟨vs, ws, vs[i]'(by omega), ws[i]'(by omega), rdSq (rdM s2 (rdM s hq)), rdSq (rdM s2 (rdM s hq2)), List.getElem?_eq_getElem _, List.getElem?_eq_getElem _⟩
        · intro i F H x H' s s2 hi ⟨T, u, w, e1, hT, e2, hu, hw⟩
          have hu := hu vs (rdSq (rdM s2 (rdM s hq)))
          have hw := hw ws (rdSq (rdM s2 (rdM s hq2)))
          obtain ⟨d, hd, du⟩ := ds.get' hu
          obtain ⟨d', hd', dw⟩ := ds2.get' hw
          exact ⟨T, u, w, d, d', e1, hT, e2, du, dw, zipD_get hd hd'⟩
    · rename_i xs ys
      cases dz with | cons d dz => cases dz with | cons d2 dz => cases dz; cases d with | tup hq ds => cases d2 with | tup hq2 ds2 =>
        rename_i a vs b ws
        have hl : vs.length = xs.length := ds.length
        have hl2 : ws.length = ys.length := ds2.length
        refine ⟨a, b, vs, ws, rfl, .inr ⟨seqT R1.fh hq, seqT R1.fh hq2, c _ _ _ _ _ h2 R1 s1 (wk_pair (f := fun _ => none) (g := fun _ => none) (a := []) (b := []) (n := min xs.length ys.length) (by unfold zipD; simp) ?_ ?_ ?_)⟩⟩
        · exact fun i F H s s2 hi => ⟨vs, ws, seqT s2 (seqT s hq), seqT s2 (seqT s hq2), by omega⟩
        · intro i F H s s2 hi
          exact ⟨vs, ws, vs[i]'(by omega), ws[i]'(by omega), seqT s2 (seqT s hq), seqT s2 (seqT s hq2), List.getElem?_eq_getElem _, List.getElem?_eq_getElem _⟩
        · intro i F H x H' s s2 hi ⟨T, u, w, e1, hT, e2, hu, hw⟩
          have hu := hu vs (seqT s2 (seqT s hq))
          have hw := hw ws (seqT s2 (seqT s hq2))
          obtain ⟨d, hd, du⟩ := ds.get' hu
          obtain ⟨d', hd', dw⟩ := ds2.get' hw
          exact ⟨T, u, w, d, d', e1, hT, e2, du, dw, zipD_get hd hd'⟩
    · exact False.elim h2⟩⟩

/-! ### for -/
def sFor (src : TId) (pt : Pt) (b : TSt) : TSt := fun D ρ => src ρ fun w ρ1 => ∃ xs, w = .items xs ∧ ∃ I : Nat → En → Prop, I 0 ρ1 ∧
  (∀ i x ρ2, xs[i]? = some x → I i ρ2 → pt.go x ρ2 fun ρ3 => b { D with nx := I (i + 1), ct := I (i + 1), bk := D.nx } ρ3) ∧ ∀ ρ2, I xs.length ρ2 → D.nx ρ2
theorem LS.for {src : TId} {pt : Pt} (hp : PassesOwn (model X.prog X.w) X.A X.env X.xe) (hc : X.calm = true) (hi : LI X tg e src) (hg : PG X tg (pt.tg X.K)) (hb : LSs X sts t)
    (hs : ∀ x, foldedSetIterable e X.env x = pure x := by intro _; rfl) : LS X (.For tg e sts [] pos) (sFor src pt t) := ⟨psImp (ps_for hp hc hi.p hg hb.p hs) fun D σ H ⟨G, ρ, F, D', R, q, k⟩ => ⟨G, ρ, F, _, R, q, fun w ρ1 H1 F1 J h1 R1 s1 wk => by
  obtain ⟨xs, rfl, I, i0, turn, fin⟩ := h1
  refine ⟨fun i m σ H => m = xs.length - i ∧ i ≤ xs.length ∧ ∃ ρ2 F2, Rel X.K G ρ2 F2 σ H ∧ Same F1 F2 ∧ I i ρ2, ⟨xs.length, rfl, Nat.zero_le _, ρ1, F1, R1, Same.refl _, i0⟩, ?_⟩
  rintro i m σ2 H2 ⟨rfl, hi, ρ2, F2, R2, s2, i2⟩
  obtain ⟨wstop, wgo⟩ := wk G i ρ2 F2 σ2 H2 R2 s2 trivial trivial
  by_cases hlt : i < xs.length
  · obtain ⟨go, yld⟩ := wgo hlt
    refine .inr ⟨go, fun σ' H' => ∃ ρ' F', Rel X.K G ρ' F' σ' H' ∧ Same F1 F' ∧ I (i + 1) ρ', fun σ' H' ⟨ρ', F', R', s', i'⟩ => ⟨_, by omega, rfl, hlt, ρ', F', R', s', i'⟩, fun x H' y => ?_⟩
    obtain ⟨F', d, g, ed, dd⟩ := yld x H' y
    refine pt_go pt (R2.grow g) dd (turn i d ρ2 ed i2) fun ρ3 σ3 q3 R3 _ => ?_
    have s3 := s1.trans (s2.trans g.ff)
    exact ⟨G, ρ3, F', _, R3, q3, ⟨fun ρ4 σ4 H4 F4 h R s => ⟨ρ4, F4, R, (s2.trans g.ff).trans s, h⟩, fun l ρ4 v σ4 H4 F4 h R s r => k.rt _ _ _ _ _ _ h R (s3.trans s) r,
      fun ρ4 σ4 H4 F4 h R s => k.nx _ _ _ _ h R (s3.trans s), fun ρ4 σ4 H4 F4 h R s => ⟨ρ4, F4, R, (s2.trans g.ff).trans s, h⟩⟩⟩
  · have ei : i = xs.length := by omega
    subst ei
    exact .inl ⟨wstop (Nat.le_refl _), k.nx _ _ _ _ (fin ρ2 i2) R2 (s1.trans s2)⟩⟩⟩
end
end DL
/-! The data layer, part h: comprehensions, calls of defs, defs. -/
namespace DL
open PySem L2 PyProof.Rows

section
variable {G : Gm} {X : Cx} {K : PySem.W.Frag} {F F' F1 F2 H H' H1 : Hp} {ρ ρ1 ρ2 : En} {σ : L2.St} {e e2 e3 tg elt iter : Expr} {es ifs : List Expr} {pos : Pos} {oa ob oc : Op1} {ta tb el : TD} {c : TTd} {st : Stmt} {sts sts2 : List Stmt} {t u : TSt} {tf tf2 : TF} {v : V} {x : PD}

/-! ### the slots of a comprehension's own names -/
def wipeE (ρ : En) : List Nat → En
  | [] => ρ
  | v :: vs => (wipeE ρ vs).set v none
def restE (ρ1 ρ2 : En) : List Nat → En
  | [] => ρ2
  | j :: js => (restE ρ1 ρ2 js).set j (ρ1.getD j none)
def lcFree (ρ : En) (vs : List Nat) : Bool := vs.all fun j => match ρ[j]? with
  | some (some l) => !l.own
  | _ => true
theorem wipe_ne {vs : List Nat} {i : Nat} (h : i ∉ vs) : (wipe σ vs)[i]? = σ[i]? := by
  induction vs with
  | nil => rfl
  | cons v vs ih =>
    show ((wipe σ vs).set v none)[i]? = σ[i]?
    rw [List.getElem?_set_ne (fun z => h (by rw [z]; exact List.mem_cons_self))]
    exact ih fun z => h (List.mem_cons_of_mem _ z)
theorem wipeE_length (vs : List Nat) : (wipeE ρ vs).length = ρ.length := by
  induction vs with
  | nil => rfl
  | cons v vs ih => show ((wipeE ρ vs).set v none).length = _; rw [List.length_set, ih]
theorem wipeE_get {vs : List Nat} {i : Nat} {l : Lc} (h : (wipeE ρ vs)[i]? = some (some l)) : i ∉ vs ∧ ρ[i]? = some (some l) := by
  induction vs with
  | nil => exact ⟨by simp, h⟩
  | cons v vs ih =>
    have h : ((wipeE ρ vs).set v none)[i]? = some (some l) := h
    rcases set_get h with ⟨_, _, z⟩ | ⟨hne, h⟩
    · cases z
    · obtain ⟨h1, h2⟩ := ih h
      exact ⟨by simp only [List.mem_cons, not_or]; exact ⟨hne, h1⟩, h2⟩
theorem restE_length (vs : List Nat) : (restE ρ1 ρ2 vs).length = ρ2.length := by
  induction vs with
  | nil => rfl
  | cons v vs ih => show ((restE ρ1 ρ2 vs).set v _).length = _; rw [List.length_set, ih]
theorem restE_get {vs : List Nat} {i : Nat} {l : Lc} (h : (restE ρ1 ρ2 vs)[i]? = some (some l)) : (i ∈ vs ∧ ρ1[i]? = some (some l)) ∨ (i ∉ vs ∧ ρ2[i]? = some (some l)) := by
  induction vs with
  | nil => exact .inr ⟨by simp, h⟩
  | cons v vs ih =>
    have h : ((restE ρ1 ρ2 vs).set v (ρ1.getD v none))[i]? = some (some l) := h
    rcases set_get h with ⟨rfl, _, z⟩ | ⟨hne, h⟩
    · refine .inl ⟨List.mem_cons_self, ?_⟩
      rw [List.getD_eq_getElem?_getD] at z
      cases q : ρ1[i]? with
      | none => rw [q] at z; simp at z
      | some w => rw [q] at z; simp at z; rw [← z]
    · rcases ih h with ⟨a, b⟩ | ⟨a, b⟩
      · exact .inl ⟨List.mem_cons_of_mem _ a, b⟩
      · exact .inr ⟨by simp only [List.mem_cons, not_or]; exact ⟨hne, a⟩, b⟩
theorem wipe_eq {σ' : L2.St} {vs : List Nat} (hl : σ'.length = σ.length) (h : ∀ j, j ∉ vs → σ'[j]? = σ[j]?) : wipe σ' vs = wipe σ vs := by
  have key : ∀ {τ : L2.St} {i : Nat}, i < τ.length → i ∈ vs → (wipe τ vs)[i]? = some none := by
    intro τ i hi hm
    clear h
    induction vs with
    | nil => simp at hm
    | cons v vs ih =>
      show ((wipe τ vs).set v none)[i]? = _
      by_cases hv : v = i
      · subst hv; rw [List.getElem?_set_self (by rw [wipe_length]; exact hi)]
      · rw [List.getElem?_set_ne hv]
        exact ih ((List.mem_cons.mp hm).resolve_left (Ne.symm hv))
  apply List.ext_getElem?
  intro i
  by_cases hm : i ∈ vs
  · by_cases hi : i < σ.length
    · rw [key (by rw [hl]; exact hi) hm, key hi hm]
    · rw [List.getElem?_eq_none (by rw [wipe_length, hl]; omega), List.getElem?_eq_none (by rw [wipe_length]; omega)]
  · rw [wipe_ne hm, wipe_ne hm, h i hm]
theorem wipe_only {σ' : L2.St} {is vs : List Nat} (hs : ∀ i ∈ is, i ∈ vs) (o : Only is (wipe σ vs) σ') : wipe σ' vs = wipe σ vs := by
  refine wipe_eq (by rw [o.1, wipe_length]) fun j hj => ?_
  rw [o.2 j fun z => hj (hs j z), wipe_ne hj]
theorem Rel.wipe (R : Rel K G ρ F σ H) (vs : List Nat) {σ' : L2.St} (hl : σ'.length = σ.length) (h : ∀ j, j ∉ vs → σ'[j]? = σ[j]?) : Rel K G (wipeE ρ vs) F σ' H :=
  R.weak (by rw [wipeE_length, hl]; exact R.len) fun i l e => ⟨(wipeE_get e).2, h i (wipeE_get e).1⟩
theorem Rel.rest (R1 : Rel K G ρ1 F1 σ H1) (vs : List Nat) (hf : lcFree ρ1 vs = true) (R2 : Rel K G (wipeE ρ2 vs) F2 (L2.wipe σ vs) H) (s : Same F1 F2) : Rel K G (restE ρ1 (wipeE ρ2 vs) vs) F2 σ H := by
  have nown : ∀ {i : Nat} {l : Lc}, i ∈ vs → ρ1[i]? = some (some l) → l.own = false := fun {i l} hi e => by
    have := List.all_eq_true.mp hf i hi
    rw [e] at this
    simpa using this
  refine ⟨R2.fh, R2.ff, R2.fr, R2.nw, R2.ih, ?_, fun i l e => ?_, fun i j l m v e1 e2 h1 h2 e3 e4 => ?_⟩
  · rw [restE_length, ← R2.len, wipe_length]
  · rcases restE_get e with ⟨hi, e⟩ | ⟨hi, e⟩
    · have z := R1.sl i l e
      rcases not_own (nown hi e) with ⟨x, rfl⟩ | ⟨w, rfl⟩
      · obtain ⟨v, e1, d⟩ := z; exact ⟨v, e1, d.mono s⟩
      · obtain ⟨v, e1, d⟩ := z; exact ⟨v, e1, d.mono s⟩
    · have z := R2.sl i l e
      rw [wipe_ne hi] at z; exact z
  · rcases restE_get e1 with ⟨hi, q⟩ | ⟨hi, q⟩
    · rw [nown hi q] at h1; cases h1
    · rcases restE_get e2 with ⟨hj, q2⟩ | ⟨hj, q2⟩
      · rw [nown hj q2] at h2; cases h2
      · exact R2.ds i j l m v q q2 h1 h2 (by rw [wipe_ne hi]; exact e3) (by rw [wipe_ne hj]; exact e4)
/-- an object beside the frame is changed -/
theorem Rel.side {p : Addr} {o : HO} (R : Rel K G ρ F σ H) (hF : F p = none) (h0 : G.H0 p = none) (hf : ∀ (j : Nat) (m : Lc), ρ[j]? = some (some m) → m.own = true → σ[j]? ≠ some (some (.ref p))) : Rel K G ρ F σ (upd H p o) := by
  refine ⟨fun b u q => ?_, R.ff, fun b u q hb => ?_, R.nw, fun b hb => ⟨?_, (R.ih b hb).2⟩, R.len, fun i l e => ?_, R.ds⟩
  · rw [upd_ne (ne_of_none q hF)]; exact R.fh _ _ q
  · rw [upd_ne (ne_of_none q h0)]; exact R.fr b u q hb
  · by_cases hbp : b = p
    · subst hbp; rw [upd_same]; simp
    · rw [upd_ne hbp]; exact (R.ih b hb).1
  · have z := R.sl i l e
    cases hl : l.own with
    | true =>
      rw [own_slot hl] at z ⊢
      obtain ⟨a, e1, nf, ow, ob, eo, ok⟩ := z
      have : a ≠ p := fun q => hf i l e hl (by rw [e1, q])
      exact ⟨a, e1, nf, ow, ob, by rw [upd_ne this]; exact eo, ok⟩
    | false =>
      rcases not_own hl with ⟨x, rfl⟩ | ⟨w, rfl⟩
      · exact z
      · exact z

/-! ### list comprehensions -/
def Wk.apart (vs : List Nat) : Wk → Bool
  | .items _ => true
  | .own s _ _ => !vs.contains s
def fLc (src : TId) (vs : List Nat) (pt : Pt) (c : TTd) (el : TD) : TF := fun ρ Q => src ρ fun w ρ1 => (lcFree ρ1 vs = true ∧ w.apart vs = true) ∧ ∃ I : Nat → List PD → En → Prop, I 0 [] (wipeE ρ1 vs) ∧
  (∀ i acc ρ2, I i acc ρ2 → w.keeps ρ2) ∧
  (∀ i x acc ρ2, w.list[i]? = some x → I i acc ρ2 → pt.go x ρ2 fun ρ3 => c ρ3 fun b ρ4 => brB b (el ρ4 fun y ρ5 => acc.length < sizeLine ∧ I (i + 1) (acc ++ [y]) (wipeE ρ5 vs)) (I (i + 1) acc (wipeE ρ4 vs))) ∧
  ∀ acc ρ2, I w.list.length acc ρ2 → Q (.ls none acc) (restE ρ1 ρ2 vs)
theorem tLc_of {src : TId} {vs : List Nat} {pt : Pt} (hs : ∀ i ∈ pt.slots, i ∈ vs) {Q : VK} (h : liftF K (fLc src vs pt c el) σ H Q) : tLc (liftI K src) (pt.tg K) (liftT K c) (liftD K el) vs σ H Q := by
  obtain ⟨G, ρ, F, Q', R, q, k⟩ := h
  refine ⟨G, ρ, F, _, R, q, fun w ρ1 H1 F1 J q1 R1 s1 wk D hD => ?_⟩
  obtain ⟨⟨hfree, hap⟩, I, i0, ikeep, turn, fin⟩ := q1
  have h0 : G.H0 D = none := R1.h0 hD
  have dio : D ∉ G.io := fun z => (R1.ih D z).2 h0
  have kS : w.keepS (L2.wipe σ vs) σ := by
    cases w with
    | items xs => trivial
    | own s p xs =>
      have : s ∉ vs := by simpa [Wk.apart] using hap
      exact wipe_ne this
  let Hd := fun (i : Nat) (H : Hp) => ∃ ρ2 F2 accV acc, Rel K G (wipeE ρ2 vs) F2 (L2.wipe σ vs) H ∧ Same F1 F2 ∧ H D = some (.lst accV) ∧ DfA K F2 accV acc ∧ F2 D = none ∧
    (∀ (j : Nat) (m : Lc), (wipeE ρ2 vs)[j]? = some (some m) → m.own = true → (L2.wipe σ vs)[j]? ≠ some (some (.ref D))) ∧ I i acc (wipeE ρ2 vs)
  have start : Hd 0 (upd H1 D (.lst [])) := by
    have Rw := R1.wipe vs (σ' := L2.wipe σ vs) (wipe_length σ vs) fun j hj => wipe_ne hj
    refine ⟨ρ1, F1, [], [], Rw.grow (Grow.owned R1.fh hD _), Same.refl _, upd_same, .nil, R1.fh.free hD, fun j m e hm z => ?_, i0⟩
    obtain ⟨a, e1, _, _, ob, eo, _⟩ := Rw.at_ e hm
    rw [z] at e1
    have : D = a := by simpa using e1
    subst this
    rw [hD] at eo; cases eo
  refine ⟨fun i m H => m = w.list.length - i ∧ i ≤ w.list.length ∧ Hd i H, ⟨w.list.length, rfl, Nat.zero_le _, start⟩, ?_⟩
  rintro i m H2 ⟨rfl, hi, ρ2, F2, accV, acc, R2, s2, hDv, dA, fD, nD, i2⟩
  obtain ⟨wstop, wgo⟩ := wk G i _ F2 _ H2 R2 s2 (ikeep _ _ _ i2) kS
  by_cases hlt : i < w.list.length
  · obtain ⟨go, yld⟩ := wgo hlt
    refine .inr ⟨go, Hd (i + 1), fun H' h => ⟨_, by omega, rfl, hlt, h⟩, fun x H' y => ?_⟩
    obtain ⟨F', d, g, ed, dd⟩ := yld x H' y
    have R3 := R2.grow g
    have fD' : F' D = none := by
      cases q : F' D with
      | none => rfl
      | some u => have := g.nw D (by rw [q]; simp) fD; rw [hDv] at this; cases this
    have Rp := R3.pin fD' (g.hh _ _ hDv) h0 nD
    refine pt_go pt Rp dd (turn i d acc _ ed i2) fun ρ3 σ3 q3 R4 o3 => ⟨wipe_only hs o3, G.pin D (.lst accV), ρ3, F', _, R4, q3, fun b ρ4 H4 F4 h4 R5 s5 => ?_⟩
    have hj : ∀ j, j ∉ vs → (L2.wipe σ vs)[j]? = σ3[j]? := fun j hj => (o3.2 j fun z => hj (hs j z)).symm
    have hl3 : (L2.wipe σ vs).length = σ3.length := o3.1.symm
    cases b with
    | false =>
      obtain ⟨R6, f6, h6, n6⟩ := R5.unpin h0 (R1.ff.free (R1.fh.free hD)) dio
      refine iteF ⟨ρ4, F4, accV, acc, R6.wipe vs hl3 hj, s2.trans (g.ff.trans s5), h6, dA.mono (g.ff.trans s5), f6, fun j m e hm z => ?_, h4.2 rfl⟩
      obtain ⟨a, b⟩ := wipeE_get e
      exact n6 j m b hm (by rw [← hj j a]; exact z)
    | true =>
      refine iteT ⟨G.pin D (.lst accV), ρ4, F4, _, R5, h4.1 rfl, fun y ρ5 u H5 F5 h5 R7 s7 dy => ?_⟩
      obtain ⟨hlen, h5⟩ := h5
      obtain ⟨R6, f6, h6, n6⟩ := R7.unpin h0 (R1.ff.free (R1.fh.free hD)) dio
      have sA := g.ff.trans (s5.trans s7)
      refine ⟨accV, h6, by rw [dA.length]; exact hlen, ρ5, F5, accV ++ [u], acc ++ [y], ?_, s2.trans sA, upd_same, (dA.mono sA).snoc dy, f6, fun j m e hm z => ?_, h5⟩
      · exact (R6.side f6 h0 n6).wipe vs hl3 hj
      · obtain ⟨a, b⟩ := wipeE_get e
        exact n6 j m b hm (by rw [← hj j a]; exact z)
  · have ei : i = w.list.length := by omega
    subst ei
    refine .inl ⟨wstop (Nat.le_refl _), k (.ls none acc) _ _ H2 F2 (fin acc _ i2) (R1.rest vs hfree R2 s2) (s1.trans s2) ⟨D, rfl, rfl, ⟨fD, h0, _, hDv, dA⟩, fun j m e hm z => ?_⟩⟩
    rcases restE_get e with ⟨hj, e⟩ | ⟨hj, e⟩
    · have := List.all_eq_true.mp hfree j hj
      rw [e] at this
      have this : (!m.own) = true := this
      rw [hm] at this; cases this
    · exact nD j m e hm (by rw [wipe_ne hj]; exact z)
def cYes : TTd := fun ρ Q => Q true ρ
theorem LT.yes : ∀ {X : Cx}, PTs X [] (liftT X.K cYes) := fun {X} => ⟨fun pins s σ H Q I h => pts_nil.run pins s σ H Q I (by
  obtain ⟨G, ρ, F, Q', R, q, k⟩ := h
  exact k _ _ _ _ q R (Same.refl _))⟩
/-- as a value -/
theorem LF.lc {scope : Scope} {own : List (Str × Nat)} {vs : List Nat} {src : TId} {pt : Pt} (hc : X.calm = true) (hN : X.N.Nodup) (hi : LI X tg iter src) (ok : BlkOk X.N X.env.scope scope own) (hv : own.map (·.2) = vs) (hs : ∀ i ∈ pt.slots, i ∈ vs)
    (hg : ∀ (s : Shared) (H : Hp) (C : Addr) (cl : List (Str × Addr)) (fp : List Addr), PG (X.blk s H scope (compEnvC scope cl C X.env) fp) tg (pt.tg X.K)) (ht : ∀ (s : Shared) (H : Hp) (C : Addr) (cl : List (Str × Addr)) (fp : List Addr), PTs (X.blk s H scope (compEnvC scope cl C X.env) fp) ifs (liftT X.K c))
    (he : ∀ (s : Shared) (H : Hp) (C : Addr) (cl : List (Str × Addr)) (fp : List Addr), LD (X.blk s H scope (compEnvC scope cl C X.env) fp) elt el) (hf : ∀ x, foldedSetIterable iter X.env x = pure x := by intro _; rfl) :
    LF X (.ListComp elt [⟨tg, iter, ifs, 0⟩] scope pos) (fLc src vs pt c el) := ⟨peImp (pe_lc hc hN hi.p ok hg ht (fun s H C cl fp => (he s H C cl fp).p) hf) fun σ H Q h => by rw [hv]; exact tLc_of hs h⟩
/-- name = [..] -/
theorem LS.lc {i : Nat} {y : Str} {py spos : Pos} {scope : Scope} {own : List (Str × Nat)} {vs : List Nat} {src : TId} {pt : Pt} (hc : X.calm = true) (hN : X.N.Nodup) (hy : X.N[i]? = some y) (hyl : X.env.scope.names.lookup y = some .local)
    (hsw : swapsWith (.ListComp elt [⟨tg, iter, ifs, 0⟩] scope pos) (some (.Name y py)) spos.line X.env = pure true) (hi : LI X tg iter src) (ok : BlkOk X.N X.env.scope scope own) (hv : own.map (·.2) = vs) (hs : ∀ i ∈ pt.slots, i ∈ vs)
    (hg : ∀ (s : Shared) (H : Hp) (C : Addr) (cl : List (Str × Addr)) (fp : List Addr), PG (X.blk s H scope (compEnvC scope cl C X.env) fp) tg (pt.tg X.K)) (ht : ∀ (s : Shared) (H : Hp) (C : Addr) (cl : List (Str × Addr)) (fp : List Addr), PTs (X.blk s H scope (compEnvC scope cl C X.env) fp) ifs (liftT X.K c))
    (he : ∀ (s : Shared) (H : Hp) (C : Addr) (cl : List (Str × Addr)) (fp : List Addr), LD (X.blk s H scope (compEnvC scope cl C X.env) fp) elt el) (hf : ∀ x, foldedSetIterable iter X.env x = pure x := by intro _; rfl) :
    LS X (.Assign [.Name y py] (.ListComp elt [⟨tg, iter, ifs, 0⟩] scope pos) spos) (sAsg i (fLc src vs pt c el)) := ⟨psImp (ps_setLc hc hN hy hyl hsw hi.p ok hg ht (fun s H C cl fp => (he s H C cl fp).p) hf) fun D σ H ⟨G, ρ, F, D', R, q, k⟩ => by
  have h : liftF X.K (fLc src vs pt c el) σ H (fun x H1 => gName i x σ H1 D.nx) := ⟨G, ρ, F, _, R, q, fun l ρ1 v H1 F1 h1 R1 s1 r1 => k.nx _ _ _ _ h1 (r1.store R1 i) s1⟩
  show tLc _ _ _ _ (own.map (·.2)) σ H _
  rw [hv]
  exact tLc_of hs h⟩

/-! ### calls of defs -/
/-- a def's promise over data: its arguments (own lists handed in as the k-th: tag k), what is wanted of the result and of the lists handed in -/
structure FSpec where
  sp : List Lc → (Lc → List Lc → Prop) → Prop
def ArgOk (K : PySem.W.Frag) (F H : Hp) (ios : List Addr) : Lc → V → Prop
  | .d x, v => Df K F v x
  | .sc xs, v => ScOk K F xs v
  | l, v => ∃ a k, v = .ref a ∧ l.tag = some k ∧ ios[k]? = some a ∧ F a = none ∧ ∃ o, H a = some o ∧ HoOk K F l o
inductive ArgsOk (K : PySem.W.Frag) (F H : Hp) (ios : List Addr) : List Lc → List V → Prop
  | nil : ArgsOk K F H ios [] []
  | cons {l : Lc} {v : V} {ls : List Lc} {vs : List V} : ArgOk K F H ios l v → ArgsOk K F H ios ls vs → ArgsOk K F H ios (l :: ls) (v :: vs)
def tags (ls : List Lc) : List Nat := ls.filterMap Lc.tag
structure Post (K : PySem.W.Frag) (F H : Hp) (ios : List Addr) (r : Lc) (outs : List Lc) (v : V) (F' H' : Hp) : Prop where
  ff : Same F F'
  fh : Same F' H'
  fr : ∀ b o, H b = some o → b ∉ ios → H' b = some o
  nw : ∀ b, F' b ≠ none → F b = none → H b = none
  ol : outs.length = ios.length
  ou : ∀ (k : Nat) (l : Lc), outs[k]? = some l → ∃ a o, ios[k]? = some a ∧ F' a = none ∧ H' a = some o ∧ HoOk K F' l o ∧ l.tag = some k
  rs : match r with
    | .d x => Df K F' v x
    | .sc xs => ScOk K F' xs v
    | l => ∃ a o, v = .ref a ∧ H a = none ∧ F' a = none ∧ H' a = some o ∧ HoOk K F' l o ∧ l.tag = none
def liftC (K : PySem.W.Frag) (S : FSpec) : Sp := fun vs H Q _ => ∃ args F ios Qd, Same F H ∧ ArgsOk K F H ios args vs ∧ ios.Nodup ∧ (∀ a ∈ ios, H a ≠ none) ∧ tags args = List.range ios.length ∧
  S.sp args Qd ∧ ∀ r outs v F' H', Qd r outs → Post K F H ios r outs v F' H' → Q v H'
theorem ArgsOk.length {ios : List Addr} {ls : List Lc} {vs : List V} (h : ArgsOk K F H ios ls vs) : ls.length = vs.length := by
  induction h with
  | nil => rfl
  | cons _ _ ih => rw [List.length_cons, List.length_cons, ih]
def argsAt (ρ : En) : List AV → Nat → Option (List Lc × List Nat)
  | [], _ => some ([], [])
  | .v x :: r, k => (argsAt ρ r k).map fun p => (.d x :: p.1, p.2)
  | .s i :: r, k => match ρ[i]? with
    | some (some (.d x)) => (argsAt ρ r k).map fun p => (.d x :: p.1, p.2)
    | some (some (.sc xs)) => (argsAt ρ r k).map fun p => (.sc xs :: p.1, p.2)
    | some (some l) => (argsAt ρ r (k + 1)).map fun p => (l.retag (some k) :: p.1, i :: p.2)
    | _ => none
def nodupB : List Nat → Bool
  | [] => true
  | i :: r => !r.contains i && nodupB r
theorem nodup_of {is : List Nat} (h : nodupB is = true) : is.Nodup := by
  induction is with
  | nil => exact List.nodup_nil
  | cons i r ih =>
    unfold nodupB at h
    rw [Bool.and_eq_true] at h
    exact List.nodup_cons.mpr ⟨by simpa using h.1, ih h.2⟩
def tagAt (ρ : En) (i : Nat) : Option Nat := match ρ[i]? with
  | some (some l) => l.tag
  | _ => none
def putO (ρ0 : En) : En → List Nat → List Lc → En
  | ρ, i :: is, l :: ls => putO ρ0 (ρ.set i (some (l.retag (tagAt ρ0 i)))) is ls
  | ρ, _, _ => ρ
/-- .. the slots written out -/
def putF (ρ0 : En) : En → List Nat → List Lc → (En → Prop) → Prop
  | ρ, i :: is, l :: ls, k => match tagAt ρ0 i with
    | none => force (ρ.set i (some (l.retag none))) fun ρ' => putF ρ0 ρ' is ls k
    | some j => force (ρ.set i (some (l.retag (some j)))) fun ρ' => putF ρ0 ρ' is ls k
  | ρ, _, _, k => k ρ
theorem putF_eq {ρ0 : En} : ∀ (is : List Nat) (ls : List Lc) (ρ : En) (k : En → Prop), putF ρ0 ρ is ls k = k (putO ρ0 ρ is ls)
  | [], ls, ρ, k => by cases ls <;> rfl
  | i :: is, [], ρ, k => rfl
  | i :: is, l :: ls, ρ, k => by
    unfold putF putO
    cases tagAt ρ0 i with
    | none => dsimp only; rw [force_eq, putF_eq is ls]
    | some j => dsimp only; rw [force_eq, putF_eq is ls]
def fCall (S : FSpec) (t : TAd) : TF := fun ρ Q => t ρ fun as ρ1 => match argsAt ρ1 as 0 with
  | some (args, is) => nodupB is = true ∧ S.sp args fun r outs => putF ρ1 ρ1 is outs fun ρ2 => Q r ρ2
  | none => False
theorem putO_length {ρ0 : En} {is : List Nat} {ls : List Lc} : (putO ρ0 ρ is ls).length = ρ.length := by
  induction is generalizing ρ ls with
  | nil => cases ls <;> rfl
  | cons i is ih =>
    cases ls with
    | nil => rfl
    | cons l ls => show (putO ρ0 (ρ.set i _) is ls).length = _; rw [ih, List.length_set]
theorem putO_get {ρ0 : En} {is : List Nat} {ls : List Lc} {j : Nat} {l : Lc} (hn : is.Nodup) (hl : ls.length = is.length) (h : (putO ρ0 ρ is ls)[j]? = some (some l)) :
    (j ∉ is ∧ ρ[j]? = some (some l)) ∨ ∃ (k : Nat) (m : Lc), is[k]? = some j ∧ ls[k]? = some m ∧ l = m.retag (tagAt ρ0 j) := by
  induction is generalizing ρ ls with
  | nil => cases ls <;> exact .inl ⟨by simp, h⟩
  | cons i is ih =>
    cases ls with
    | nil => simp at hl
    | cons m ls =>
      have h : (putO ρ0 (ρ.set i (some (m.retag (tagAt ρ0 i)))) is ls)[j]? = some (some l) := h
      rw [List.nodup_cons] at hn
      rcases ih hn.2 (by simpa using hl) h with ⟨h1, h2⟩ | ⟨k, m', h1, h2, h3⟩
      · rcases set_get h2 with ⟨rfl, _, z⟩ | ⟨hne, h2⟩
        · cases z; exact .inr ⟨0, m, rfl, rfl, rfl⟩
        · exact .inl ⟨by simp only [List.mem_cons, not_or]; exact ⟨hne, h1⟩, h2⟩
      · exact .inr ⟨k + 1, m', by simpa using h1, by simpa using h2, h3⟩
theorem argsAt_ok (R : Rel K G ρ F σ H) : ∀ {as : List AV} {vs : List V} {k : Nat} {args : List Lc} {is : List Nat}, AvA K F σ as vs → argsAt ρ as k = some (args, is) → ∀ pre : List Addr, pre.length = k →
    ∃ post : List Addr, post.length = is.length ∧ (∀ (j i : Nat), is[j]? = some i → ∃ a l, post[j]? = some a ∧ σ[i]? = some (some (.ref a)) ∧ ρ[i]? = some (some l) ∧ l.own = true) ∧
      ArgsOk K F H (pre ++ post) args vs ∧ tags args = List.range' k is.length
  | _, _, k, args, is, .nil, e, pre, hp => by
    have e : some (([] : List Lc), ([] : List Nat)) = some (args, is) := e
    cases e
    exact ⟨[], rfl, fun j i z => by simp at z, .nil, rfl⟩
  | .v x :: r, v :: vs, k, args, is, .cons a t, e, pre, hp => by
    have e : (argsAt ρ r k).map (fun p => (Lc.d x :: p.1, p.2)) = some (args, is) := e
    cases q : argsAt ρ r k with
    | none => rw [q] at e; cases e
    | some p =>
      obtain ⟨as', is'⟩ := p
      rw [q] at e; cases e
      obtain ⟨post, h1, h2, h3, h4⟩ := argsAt_ok R t q pre hp
      exact ⟨post, h1, h2, .cons a h3, h4⟩
  | .s i :: r, v :: vs, k, args, is, .cons a t, e, pre, hp => by
    have a : σ[i]? = some (some v) := a
    unfold argsAt at e
    split at e
    · rename_i x er
      cases q : argsAt ρ r k with
      | none => rw [q] at e; cases e
      | some p =>
        obtain ⟨as', is'⟩ := p
        rw [q] at e; cases e
        obtain ⟨post, h1, h2, h3, h4⟩ := argsAt_ok R t q pre hp
        obtain ⟨w, ew, d⟩ := R.sl i _ er
        rw [a] at ew
        have : v = w := by simpa using ew
        subst this
        exact ⟨post, h1, h2, .cons d h3, h4⟩
    · rename_i u er
      cases q : argsAt ρ r k with
      | none => rw [q] at e; cases e
      | some p =>
        obtain ⟨as', is'⟩ := p
        rw [q] at e; cases e
        obtain ⟨post, h1, h2, h3, h4⟩ := argsAt_ok R t q pre hp
        obtain ⟨w, ew, d⟩ := R.sl i _ er
        rw [a] at ew
        have : v = w := by simpa using ew
        subst this
        exact ⟨post, h1, h2, .cons d h3, h4⟩
    · rename_i l n1 n2 er
      have ho : l.own = true := by
        cases l with
        | d x => exact absurd rfl (n1 x)
        | sc u => exact absurd rfl (n2 u)
        | _ => rfl
      obtain ⟨b, es, at_⟩ := R.at_ er ho
      cases q : argsAt ρ r (k + 1) with
      | none => rw [q] at e; cases e
      | some p =>
        obtain ⟨as', is'⟩ := p
        rw [q] at e; cases e
        obtain ⟨post, h1, h2, h3, h4⟩ := argsAt_ok R t q (pre ++ [b]) (by rw [List.length_append, hp]; rfl)
        rw [a] at es
        have ev : v = .ref b := by simpa using es
        have z : ∃ a' k', v = .ref a' ∧ (l.retag (some k)).tag = some k' ∧ (pre ++ b :: post)[k']? = some a' ∧ F a' = none ∧ ∃ o, H a' = some o ∧ HoOk K F (l.retag (some k)) o := by
          obtain ⟨o, eo, ok⟩ := at_.ob
          exact ⟨b, k, ev, Lc.retag_tag _ _ ho, by rw [← hp]; simp, at_.nf, o, eo, ok.retag _⟩
        refine ⟨b :: post, by rw [List.length_cons, List.length_cons, h1], fun j i' e' => ?_, .cons ?_ (by rw [List.append_assoc] at h3; exact h3), ?_⟩
        · cases j with
          | zero => simp at e'; subst e'; exact ⟨b, l, rfl, by rw [a, ev], er, ho⟩
          | succ j => obtain ⟨a', l', q1, q2⟩ := h2 j i' (by simpa using e'); exact ⟨a', l', by simpa using q1, q2⟩
        · cases l <;> first | (simp [Lc.own] at ho; done) | exact z
        · show List.filterMap Lc.tag (l.retag (some k) :: as') = _
          rw [List.filterMap_cons, Lc.retag_tag _ _ ho]
          show k :: tags as' = _
          rw [h4]; rfl
    · cases e
theorem nodup_post (R : Rel K G ρ F σ H) {is : List Nat} {post : List Addr} (hl : post.length = is.length) (h : ∀ (j i : Nat), is[j]? = some i → ∃ a l, post[j]? = some a ∧ σ[i]? = some (some (.ref a)) ∧ ρ[i]? = some (some l) ∧ l.own = true) (hn : is.Nodup) : post.Nodup := by
  rw [List.nodup_iff_pairwise_ne, List.pairwise_iff_getElem]
  intro i j hi hj hij e
  have hi' : i < is.length := by omega
  have hj' : j < is.length := by omega
  obtain ⟨a, l, q1, q2, q3, q4⟩ := h i is[i] (List.getElem?_eq_getElem hi')
  obtain ⟨b, m, p1, p2, p3, p4⟩ := h j is[j] (List.getElem?_eq_getElem hj')
  rw [List.getElem?_eq_getElem hi] at q1
  rw [List.getElem?_eq_getElem hj] at p1
  have e1 : a = b := by
    have q1 : post[i] = a := by simpa using q1
    have p1 : post[j] = b := by simpa using p1
    rw [← q1, ← p1, e]
  subst e1
  have := R.ds _ _ l m _ q3 p3 q4 p4 q2 p2
  rw [List.nodup_iff_pairwise_ne, List.pairwise_iff_getElem] at hn
  exact hn i j hi' hj' hij this
theorem Rel.call (R : Rel K G ρ F σ H) {is : List Nat} {post : List Addr} {r : Lc} {outs : List Lc} (hl : post.length = is.length) (hn : is.Nodup)
    (h : ∀ (j i : Nat), is[j]? = some i → ∃ a l, post[j]? = some a ∧ σ[i]? = some (some (.ref a)) ∧ ρ[i]? = some (some l) ∧ l.own = true) (P : Post K F H post r outs v F' H') :
    Rel K G (putO ρ ρ is outs) F' σ H' ∧ RsOk K G F' H' (putO ρ ρ is outs) σ r v := by
  have hlo : outs.length = is.length := by rw [P.ol, hl]
  -- a slot behind the call
  have slot : ∀ {j : Nat} {l : Lc}, (putO ρ ρ is outs)[j]? = some (some l) → (j ∉ is ∧ ρ[j]? = some (some l)) ∨
      ∃ (k : Nat) (m l0 : Lc) (a : Addr) (o : HO), is[k]? = some j ∧ l = m.retag l0.tag ∧ ρ[j]? = some (some l0) ∧ l0.own = true ∧ σ[j]? = some (some (.ref a)) ∧ post[k]? = some a ∧ F' a = none ∧ H' a = some o ∧ HoOk K F' m o := fun {j l} e => by
    rcases putO_get hn hlo e with q | ⟨k, m, q1, q2, q3⟩
    · exact .inl q
    · obtain ⟨a, l0, p1, p2, p3, p4⟩ := h k j q1
      obtain ⟨a', o, z1, z2, z3, z4, z5⟩ := P.ou k m q2
      rw [p1] at z1
      have : a = a' := by simpa using z1
      subst this
      have et : tagAt ρ j = l0.tag := by unfold tagAt; rw [p3]
      rw [et] at q3
      exact .inr ⟨k, m, l0, a, o, q1, q3, p3, p4, p2, p1, z2, z3, z4⟩
  have old : ∀ {j : Nat} {l : Lc}, (putO ρ ρ is outs)[j]? = some (some l) → l.own = true → ∃ l0, ρ[j]? = some (some l0) ∧ l0.own = true := fun {j l} e ho => by
    rcases slot e with ⟨_, q⟩ | ⟨k, m, l0, a, o, _, _, q, q2, _⟩
    · exact ⟨l, q, ho⟩
    · exact ⟨l0, q, q2⟩
  have keep : ∀ {j : Nat} {l : Lc} {b : Addr}, j ∉ is → ρ[j]? = some (some l) → l.own = true → σ[j]? = some (some (.ref b)) → b ∉ post := fun {j l b} hj e ho es hb => by
    obtain ⟨k, hk, ek⟩ := List.getElem_of_mem hb
    obtain ⟨a, l', p1, p2, p3, p4⟩ := h k is[k] (List.getElem?_eq_getElem (by omega))
    rw [List.getElem?_eq_getElem hk, ek] at p1
    have : b = a := by simpa using p1
    subst this
    have := R.ds j is[k] l l' _ e p3 ho p4 es p2
    exact hj (by rw [this]; exact List.getElem_mem _)
  have ioA : ∀ {a : Addr}, a ∈ post → ∃ (l : Lc) (j : Nat), ρ[j]? = some (some l) ∧ l.own = true ∧ σ[j]? = some (some (.ref a)) ∧ At K G F H l a := fun {a} ha => by
    obtain ⟨k, hk, ek⟩ := List.getElem_of_mem ha
    obtain ⟨b, l', p1, p2, p3, p4⟩ := h k is[k] (List.getElem?_eq_getElem (by omega))
    rw [List.getElem?_eq_getElem hk, ek] at p1
    have : a = b := by simpa using p1
    subst this
    obtain ⟨c, es, z⟩ := R.at_ p3 p4
    rw [p2] at es
    have : a = c := by simpa using es
    subst this
    exact ⟨l', is[k], p3, p4, p2, z⟩
  have R' : Rel K G (putO ρ ρ is outs) F' σ H' := by
    refine ⟨P.fh, R.ff.trans P.ff, fun b o e hb => ?_, fun b h1 h2 => ?_, fun a ha => ⟨?_, (R.ih a ha).2⟩, by rw [putO_length]; exact R.len, fun j l e => ?_, fun i j l m w e1 e2 h1 h2 e3 e4 => ?_⟩
    · refine P.fr b o (R.fr b o e hb) fun hm => ?_
      obtain ⟨l, j, _, _, _, z⟩ := ioA hm
      have ow := z.ow
      cases q : l.tag with
      | none => rw [q] at ow; have ow : G.H0 b = none := ow; rw [e] at ow; cases ow
      | some k => rw [q] at ow; exact hb (List.mem_of_getElem? ow)
    · cases e : F b with
      | none => exact R.h0 (P.nw b h1 e)
      | some u => exact R.nw b (by rw [e]; simp) h2
    · by_cases hm : a ∈ post
      · obtain ⟨k, hk, ek⟩ := List.getElem_of_mem hm
        obtain ⟨l, hl'⟩ : ∃ l, outs[k]? = some l := ⟨outs[k]'(by omega), List.getElem?_eq_getElem _⟩
        obtain ⟨a', o, z1, _, z3, _⟩ := P.ou k l hl'
        rw [List.getElem?_eq_getElem hk, ek] at z1
        have : a = a' := by simpa using z1
        subst this
        rw [z3]; simp
      · cases e : H a with
        | none => exact absurd e (R.ih a ha).1
        | some u => rw [P.fr a u e hm]; simp
    · rcases slot e with ⟨hj, q⟩ | ⟨k, m, l0, a, o, q1, rfl, q3, q4, q5, q6, q7, q8, q9⟩
      · have z := R.sl j l q
        cases hl0 : l.own with
        | true =>
          rw [own_slot hl0] at z ⊢
          obtain ⟨b, eb, z⟩ := z
          obtain ⟨nf, ow, ob, eo, ok⟩ := z
          refine ⟨b, eb, ?_, ow, ob, P.fr b ob eo (keep hj q hl0 eb), ok.mono P.ff⟩
          cases w : F' b with
          | none => rfl
          | some u => have := P.nw b (by rw [w]; simp) nf; rw [eo] at this; cases this
        | false =>
          rcases not_own hl0 with ⟨x, rfl⟩ | ⟨w, rfl⟩
          · obtain ⟨w, ew, d⟩ := z; exact ⟨w, ew, d.mono P.ff⟩
          · obtain ⟨w, ew, d⟩ := z; exact ⟨w, ew, d.mono P.ff⟩
      · rw [own_slot (by rw [Lc.retag_own]; exact q9.own)]
        obtain ⟨b, eb, z⟩ := R.at_ q3 q4
        rw [q5] at eb
        have : a = b := by simpa using eb
        subst this
        exact ⟨a, q5, q7, by rw [Lc.retag_tag _ _ q9.own]; exact z.ow, o, q8, q9.retag _⟩
    · obtain ⟨l0, p1, p2⟩ := old e1 h1
      obtain ⟨m0, p3, p4⟩ := old e2 h2
      exact R.ds i j l0 m0 w p1 p3 p2 p4 e3 e4
  refine ⟨R', ?_⟩
  have own : r.own = true → RsOk K G F' H' (putO ρ ρ is outs) σ r v := fun ho => by
    have z : ∃ a o, v = .ref a ∧ H a = none ∧ F' a = none ∧ H' a = some o ∧ HoOk K F' r o ∧ r.tag = none := by
      have := P.rs
      cases r <;> first | (simp [Lc.own] at ho; done) | exact this
    obtain ⟨a, o, e1, e2, e3, e4, e5, e6⟩ := z
    rw [RsOk.ref_own ho]
    refine ⟨a, e1, e6, ⟨e3, by rw [e6]; exact R.h0 e2, o, e4, e5⟩, fun j m e hm w => ?_⟩
    obtain ⟨l0, p1, p2⟩ := old e hm
    obtain ⟨b, eb, _, _, ob, eo, _⟩ := R.at_ p1 p2
    rw [w] at eb
    have : a = b := by simpa using eb
    subst this
    rw [e2] at eo; cases eo
  cases r with
  | d x => exact P.rs
  | sc u => exact P.rs
  | _ => exact own rfl
variable {k : Nat} {f : Addr} {fd : FuncData} {ps : List Str} {n : Str} {p : Pos} {tt : TAd} {S : FSpec}
theorem tCall_of {m : Nat} {Q : VK} (h : liftF K (fCall S tt) σ H Q) : tCall (liftC K S) [] E0 (liftA K m tt) σ H Q := by
  obtain ⟨G, ρ, F, Q', R, q, c⟩ := h
  refine ⟨G, ρ, F, _, R, q, fun as ρ1 vs H1 F1 h1 hl R1 s1 av => ?_⟩
  split at h1
  · rename_i args is ea
    obtain ⟨hn, h1⟩ := h1
    have hn := nodup_of hn
    obtain ⟨post, p1, p2, p3, p4⟩ := argsAt_ok R1 av ea [] rfl
    rw [List.append_nil]
    refine ⟨args, F1, post, _, R1.fh, p3, nodup_post R1 p1 p2 hn, fun a ha => ?_, by rw [p4, p1, List.range_eq_range'], h1, fun r outs v F' H' q' P => ?_⟩
    · obtain ⟨j, hj, ej⟩ := List.getElem_of_mem ha
      obtain ⟨b, l, z1, z2, z3, z4⟩ := p2 j is[j] (List.getElem?_eq_getElem (by omega))
      rw [List.getElem?_eq_getElem hj, ej] at z1
      have : a = b := by simpa using z1
      subst this
      obtain ⟨b, eb, _, _, ob, eo, _⟩ := R1.at_ z3 z4
      rw [z2] at eb
      have : a = b := by simpa using eb
      subst this
      rw [eo]; simp
    · obtain ⟨R2, r2⟩ := R1.call p1 hn p2 P
      have q2 := q'
      change putF _ _ _ _ _ at q2
      rw [putF_eq] at q2
      exact c _ _ _ _ _ q2 R2 (s1.trans P.ff) r2
  · exact False.elim h1
/-! ### defs -/
def outsAt (ρ : En) : List Nat → Nat → Option (List Lc)
  | [], _ => some []
  | i :: is, k => match ρ[i]? with
    | some (some l) => if (l.own && l.tag == some k) = true then (outsAt ρ is (k + 1)).map (l :: ·) else none
    | _ => none
def ioSlots : List Lc → Nat → List Nat
  | [], _ => []
  | l :: r, i => if l.tag.isSome = true then i :: ioSlots r (i + 1) else ioSlots r (i + 1)
def retOk (args : List Lc) (Q : Lc → List Lc → Prop) (r : Lc) (ρ : En) : Prop := match outsAt ρ (ioSlots args 0) 0 with
  | some outs => (match r with
    | .d x => Q (.d x) outs
    | l => Q l outs ∨ (l.fz = true ∧ Q (.d l.pd) outs))
  | none => False
def endsOf (args : List Lc) (Q : Lc → List Lc → Prop) : DE := { nx := retOk args Q (.d .none), rt := retOk args Q }
def rho0 (N : List Str) (args : List Lc) : En := args.map some ++ List.replicate (N.length - args.length) none
theorem outsAt_ok (R : Rel K G ρ F σ H) : ∀ {is : List Nat} {k : Nat} {outs : List Lc}, outsAt ρ is k = some outs → outs.length = is.length ∧ ∀ (j : Nat) (l : Lc), outs[j]? = some l → ∃ a o, G.io[k + j]? = some a ∧ F a = none ∧ H a = some o ∧ HoOk K F l o ∧ l.tag = some (k + j)
  | [], k, outs, e => by
    have e : some ([] : List Lc) = some outs := e
    cases e
    exact ⟨rfl, fun j l z => by simp at z⟩
  | i :: is, k, outs, e => by
    unfold outsAt at e
    split at e
    · rename_i l er
      split at e
      · rename_i hz
        rw [Bool.and_eq_true] at hz
        have ht : l.tag = some k := by simpa using hz.2
        cases q : outsAt ρ is (k + 1) with
        | none => rw [q] at e; cases e
        | some os =>
          rw [q] at e; cases e
          obtain ⟨h1, h2⟩ := outsAt_ok R q
          refine ⟨by rw [List.length_cons, List.length_cons, h1], fun j m em => ?_⟩
          cases j with
          | zero =>
            simp at em; subst em
            obtain ⟨a, es, nf, ow, o, eo, ok⟩ := R.at_ er hz.1
            rw [ht] at ow
            exact ⟨a, o, ow, nf, eo, ok, ht⟩
          | succ j =>
            obtain ⟨a, o, z⟩ := h2 j m (by simpa using em)
            have ek : k + (j + 1) = k + 1 + j := by omega
            rw [ek]; exact ⟨a, o, z⟩
      · cases e
    · cases e
theorem ioSlots_length : ∀ (args : List Lc) (i : Nat), (ioSlots args i).length = (tags args).length
  | [], _ => rfl
  | l :: r, i => by
    unfold ioSlots tags
    rw [List.filterMap_cons]
    cases q : l.tag with
    | none => simp only [Option.isSome, Bool.false_eq_true, if_false]; exact ioSlots_length r (i + 1)
    | some k => simp only [Option.isSome, if_true]; rw [List.length_cons, List.length_cons]; exact congrArg (· + 1) (ioSlots_length r (i + 1))
theorem ArgsOk.get {ios : List Addr} : ∀ {ls : List Lc} {vs : List V}, ArgsOk K F H ios ls vs → ∀ {i : Nat} {l : Lc}, ls[i]? = some l → ∃ v, vs[i]? = some v ∧ ArgOk K F H ios l v
  | _, _, .nil, i, l, e => by simp at e
  | _, _, .cons a t, i, l, e => by
    cases i with
    | zero => simp at e; subst e; exact ⟨_, rfl, a⟩
    | succ i => obtain ⟨v, h1, h2⟩ := ArgsOk.get t (i := i) (by simpa using e); exact ⟨v, by simpa using h1, h2⟩
theorem argOk_own {ios : List Addr} {l : Lc} (ho : l.own = true) : ArgOk K F H ios l v ↔ ∃ a k, v = .ref a ∧ l.tag = some k ∧ ios[k]? = some a ∧ F a = none ∧ ∃ o, H a = some o ∧ HoOk K F l o := by
  cases l <;> first | exact Iff.rfl | (simp [Lc.own] at ho)
theorem tags_inj : ∀ {args : List Lc} {i j : Nat} {l m : Lc} {k : Nat}, (tags args).Nodup → args[i]? = some l → args[j]? = some m → l.tag = some k → m.tag = some k → i = j
  | [], i, j, l, m, k, _, e1, _, _, _ => by simp at e1
  | a :: r, i, j, l, m, k, hn, e1, e2, t1, t2 => by
    have mem : ∀ {i : Nat} {l : Lc}, r[i]? = some l → l.tag = some k → k ∈ tags r := fun e t => List.mem_filterMap.mpr ⟨_, List.mem_of_getElem? e, t⟩
    unfold tags at hn
    rw [List.filterMap_cons] at hn
    cases i with
    | zero =>
      simp at e1; subst e1
      rw [t1] at hn
      cases j with
      | zero => rfl
      | succ j => exact absurd (mem (by simpa using e2) t2) (List.nodup_cons.mp hn).1
    | succ i =>
      cases j with
      | zero =>
        simp at e2; subst e2
        rw [t2] at hn
        exact absurd (mem (by simpa using e1) t1) (List.nodup_cons.mp hn).1
      | succ j =>
        have hn' : (tags r).Nodup := by
          cases q : a.tag with
          | none => rw [q] at hn; exact hn
          | some k' => rw [q] at hn; exact (List.nodup_cons.mp hn).2
        exact congrArg (· + 1) (tags_inj hn' (by simpa using e1) (by simpa using e2) t1 t2)
theorem Rel.start {N : List Str} {ios : List Addr} {args : List Lc} {vs : List V} (s : Same F H) (a : ArgsOk K F H ios args vs) (hn : ios.Nodup) (hH : ∀ a ∈ ios, H a ≠ none) (ht : tags args = List.range ios.length) : Rel K ⟨H, F, ios⟩ (rho0 N args) F (L2.start N vs) H := by
  have hl := a.length
  have get : ∀ {i : Nat} {l : Lc}, (rho0 N args)[i]? = some (some l) → args[i]? = some l := fun {i l} e => by
    unfold rho0 at e
    by_cases hi : i < args.length
    · rw [List.getElem?_append_left (by simpa using hi), List.getElem?_map] at e
      cases q : args[i]? with
      | none => rw [q] at e; simp at e
      | some m => rw [q] at e; simpa using e
    · rw [List.getElem?_append_right (by simpa using Nat.le_of_not_lt hi)] at e
      have := List.mem_of_getElem? e
      rw [List.mem_replicate] at this
      cases this.2
  have getv : ∀ {i : Nat} {v : V}, vs[i]? = some v → (L2.start N vs)[i]? = some (some v) := fun {i v} e => by
    unfold L2.start
    have hi := (List.getElem?_eq_some_iff.mp e).1
    rw [List.getElem?_append_left (by simpa using hi), List.getElem?_map, e]; rfl
  refine ⟨s, Same.refl _, fun b o e _ => e, fun b h1 h2 => absurd h2 h1, fun a ha => ⟨hH a ha, hH a ha⟩, ?_, fun i l e => ?_, fun i j l m v e1 e2 h1 h2 e3 e4 => ?_⟩
  · unfold L2.start rho0
    simp only [List.length_append, List.length_map, List.length_replicate]; rw [hl]
  · obtain ⟨v, ev, av⟩ := a.get (get e)
    rw [getv ev]
    cases ho : l.own with
    | true =>
      rw [own_slot ho]
      rw [argOk_own ho] at av
      obtain ⟨b, k, e1, e2, e3, e4, o, e5, e6⟩ := av
      exact ⟨b, by rw [e1], e4, by rw [e2]; exact e3, o, e5, e6⟩
    | false =>
      rcases not_own ho with ⟨x, rfl⟩ | ⟨w, rfl⟩
      · exact ⟨v, rfl, av⟩
      · exact ⟨v, rfl, av⟩
  · obtain ⟨v1, ev1, av1⟩ := a.get (get e1)
    obtain ⟨v2, ev2, av2⟩ := a.get (get e2)
    rw [argOk_own h1] at av1
    rw [argOk_own h2] at av2
    obtain ⟨b, k, a1, a2, a3, _⟩ := av1
    obtain ⟨b', k', c1, c2, c3, _⟩ := av2
    rw [getv ev1] at e3
    rw [getv ev2] at e4
    have f1 : v1 = v := by simpa using e3
    have f2 : v2 = v := by simpa using e4
    have bb : b = b' := by rw [f1, ← f2, c1] at a1; exact (V.ref.inj a1).symm
    subst bb
    obtain ⟨hk, ek⟩ := List.getElem?_eq_some_iff.mp a3
    obtain ⟨hk', ek'⟩ := List.getElem?_eq_some_iff.mp c3
    have kk : k = k' := (List.getElem_inj hn).mp (ek.trans ek'.symm)
    subst kk
    exact tags_inj (by rw [ht]; exact List.nodup_range) (get e1) (get e2) a2 c2
end
end DL
/-! The data layer, part i: promises of defs where no repr is under way, a law's end. -/
namespace DL
open PySem L2 PyProof.Rows

/-- a def's promise, called where the stack of reprs is empty -/
structure FnG (P : Program) (w : World) (K : PySem.W.Frag) (mg : Str → Option Value) (base : Heap) (CX : CXT) (k : Nat) (f : Addr) (fd : FuncData) (ps : List Str) (sp : Sp) : Prop where
  len : ∀ vs H Q E, sp vs H Q E → vs.length = ps.length
  run : ∀ (A : Around) (outer : List PySem.Env) (s : Shared) (H : Hp) (args : Args) (us : List Value) (vs : List V) (Q : VK) (E : XK), Room k A → A.guards = some [] → Env0 P w K mg base A outer s H → BindsTo s fd args (ps.zip us) → Vals vs us → sp vs H Q E →
    codeAny (model P w) A (.call (.ref f) args) (CR CX outer P w H s Q E) s
section
variable {P : Program} {w : World} {K : PySem.W.Frag} {mg : Str → Option Value} {base : Heap} {CX : CXT} {j k : Nat} {f : Addr} {fd : FuncData} {ps : List Str} {sp sp' : Sp} {X : Cx} {E : XK} {dvs : List V} {ds : List Value} {n : Str} {p pos : Pos} {e : Expr} {es : List Expr} {t : TA} {S : FSpec} {tt : TAd} {F H : Hp} {st : Stmt} {ρ : En}
theorem FnG.mono (h : FnG P w K mg base CX j f fd ps sp) (hk : j ≤ k) : FnG P w K mg base CX k f fd ps sp := ⟨h.len, fun A outer s H args us vs Q E hr => h.run A outer s H args us vs Q E (hr.mono hk)⟩
theorem runG {pins : List (Addr × Obj)} {σ : L2.St} {s : Shared} {Q : VK} {us : List Value} {vs : List V} (G : FnG X.prog X.w X.K X.mg X.base CX k f fd ps sp) (hr : Room k X.A) (hgd : X.A.guards = some []) (hb : Binds X.K fd ps ds) (hd : Vals dvs ds) (hx : Passes CX X E)
    (I : Inv X pins σ H s) (r : Vals vs us) (h : sp (vs ++ dvs) H Q E) : wpAny (model X.prog X.w) X.A (call (.ref f) us) (EP X pins σ Q) X.xe s := by
  have rr : Vals (vs ++ dvs) (us ++ ds) := r.append hd
  have ll : (us ++ ds).length = ps.length := rr.length.symm.trans (G.len _ _ _ _ h)
  have run := G.run X.A X.stack s H ⟨us, []⟩ (us ++ ds) (vs ++ dvs) Q E hr hgd I.env0 (hb s us I.kIn ll) rr h
  refine wpAny_call (codeAny_mono run fun res s' hq => ?_)
  rcases res with e' | fl
  · exact hx pins σ H s e' s' I hq
  · cases fl <;> first | exact I.after hq | exact False.elim hq
theorem peG (G : FnG X.prog X.w X.K X.mg X.base CX k f fd ps sp) (hr : Room k X.A) (hgd : X.A.guards = some []) (hg : Gl X n) (hm : X.mg n = some (.ref f)) (hk : PySem.W.keepIn X.K (.ref f) = true) (hb : Binds X.K fd ps ds) (hd : Vals dvs ds) (hx : Passes CX X E)
    (ha : PA X (e :: es) t) (hdb : (n == ("__debug__" : Str)) = false := by decide) (he : starEach (e :: es) X.env = (false, eval e X.env) :: starEach es X.env := by rfl) (hpl : (backTo pos (starEach es X.env)).any (·.1) = false := by rfl) :
    PE X (.Call (.Name n p) (e :: es) [] pos) (tCall sp dvs E t) :=
  ⟨fun pins s σ H Q I h => wpAny_Call_Name_kw (ld_glob I hg hm (PySem.W.callWith_K (h₀ := X.base) I.ok.mod.kin hk (thn (ha.run pos pins s σ H _ I h) fun us s1 ⟨vs, H1, I1, r, q⟩ => ⟨I1.kIn, runG G hr hgd hb hd hx I1 r q⟩) he hpl) hdb)⟩
theorem LF.call (G : FnG X.prog X.w X.K X.mg X.base CX0 k f fd ps (liftC X.K S)) (hr : Room k X.A) (hgd : X.A.guards = some []) (hg : Gl X n) (hm : X.mg n = some (.ref f)) (hk : PySem.W.keepIn X.K (.ref f) = true) (hb : Binds X.K fd ps []) (ha : LA X (e :: es) tt)
    (hdb : (n == ("__debug__" : Str)) = false := by decide) (he : starEach (e :: es) X.env = (false, eval e X.env) :: starEach es X.env := by rfl) (hpl : (backTo pos (starEach es X.env)).any (·.1) = false := by rfl) :
    LF X (.Call (.Name n p) (e :: es) [] pos) (fCall S tt) := ⟨peImp (peG G hr hgd hg hm hk hb .nil pass0 ha.p hdb he hpl) fun σ H Q h => tCall_of h⟩
theorem fnG {name qual : Str} {params : Arguments} {body : List Stmt} {scope : Scope} {dV kV doc pm cdv ct oc : Value} {an od : Option Addr} {osl : Array (Option Value)} {N : List Str}
    (lk : K.lookup f = some ⟨oc, od, .func (PySem.W.fnOf name qual params body scope dV kV doc pm an cdv ct), osl⟩) (hcd : PySem.W.codeIn K cdv qual = true) (S : FnScope N ps scope) (len : ∀ vs H Q E, sp vs H Q E → vs.length = ps.length)
    (hbody : ∀ (A : Around) (outer : List PySem.Env) (s : Shared) (H : Hp) (vs : List V) (Q : VK) (E : XK), Room k (A.deeper (envOfC qual scope s.heap.objs.size f cdv)) → (A.deeper (envOfC qual scope s.heap.objs.size f cdv)).guards = some [] → sp vs H Q E →
      ∃ t, PSs (cxOf CX P w K mg base N qual scope f cdv A outer s H E) body t ∧ t { nx := fun _ H' => Q .non H', rt := Q } (start N vs) H) :
    FnG P w K mg base CX (k + 1) f (PySem.W.fnOf name qual params body scope dV kV doc pm an cdv ct) ps sp := by
  refine ⟨len, fun A outer s H args us vs Q E room hgd env0 bind vals want => ?_⟩
  have hl := len _ _ _ _ want
  have kin : K.In s.heap := env0.mod.kin.keeps fun b o q => (env0.bs b o q).1
  have nolim : s.heap.NoLimit := env0.mod.nolimit.keeps fun b o q => (env0.bs b o q).1
  have kinds : ∀ y ∈ ps.zip us, scope.names.lookup y.1 = some .local ∨ (scope.names.lookup y.1 = some .cell ∧ ((cellsFrom (s.heap.objs.size + 1) scope.names []).lookup y.1).isSome = true) := fun ⟨nm, v⟩ hy =>
    (S.par nm (List.of_mem_zip hy).1).elim .inl fun q => .inr ⟨q, PySem.W.cellsFrom_some _ _ _ (.inl q)⟩
  refine codeAny_call_function room.depth (kin _ _ lk) rfl S.co S.gen rfl (PySem.W.codeRec_of kin hcd) (bind _ _ _ _ (wpAny_newFunctionEnv_cells S.kind kinds fun env he s1 x => ?_))
  subst he
  refine ⟨nolim.keeps x.toInCall.keep, codeAny_func ?_⟩
  obtain ⟨t, ht, hq⟩ := hbody A outer s H vs Q E (room.deeper _) hgd want
  have inv : Inv (cxOf CX P w K mg base N qual scope f cdv A outer s H E) [] (start N vs) H s1 := inv_start S room.hd env0 hl vals x
  refine wpAny_mono (ht.run [] s1 (start N vs) H _ inv hq) (fun fl s' hs => ?_) fun _ _ z => z
  cases fl with
  | ret u => obtain ⟨v, σ', H', J, rv, q⟩ := hs; exact ⟨v, H', J.os, J.bare, J.base, J.hok, rv, q⟩
  | next => obtain ⟨σ', H', J, q⟩ := hs; exact ⟨V.non, H', J.os, J.bare, J.base, J.hok, rfl, q⟩
  | brk => obtain ⟨_, _, _, z⟩ := hs; exact False.elim z
  | cont => obtain ⟨_, _, _, z⟩ := hs; exact False.elim z
theorem funG {x qual : Str} {N : List Str} (Fn : Fun K x qual st f fd) (Sc : FnScope N ps (defScope st)) (len : ∀ vs H Q E, sp vs H Q E → vs.length = ps.length)
    (hbody : ∀ (cdv : Value) (A : Around) (outer : List PySem.Env) (s : Shared) (H : Hp) (vs : List V) (Q : VK) (E : XK), Room k (A.deeper (envOfC qual (defScope st) s.heap.objs.size f cdv)) → (A.deeper (envOfC qual (defScope st) s.heap.objs.size f cdv)).guards = some [] → sp vs H Q E →
      ∃ t, PSs (cxOf CX0 P w K mg base N qual (defScope st) f cdv A outer s H E).nox (defBody st) t ∧ t { nx := fun _ H' => Q .non H', rt := Q } (start N vs) H) : FnG P w K mg base CX0 (k + 1) f fd ps sp := by
  obtain ⟨oc, od, kV, doc, pm, an, cdv, ct, osl, rfl, lk, hcd⟩ := Fn.ex
  refine fnG lk hcd Sc len fun A outer s H vs Q E hr hgd hsp => ?_
  obtain ⟨t, h, q⟩ := hbody cdv A outer s H vs Q E hr hgd hsp
  exact ⟨t, h.nox, q⟩
theorem def_ok {x qual : Str} {N : List Str} {ir : TSt} (Fn : Fun K x qual st f fd) (Sc : FnScope N ps (defScope st)) (len : ∀ args Q, S.sp args Q → args.length = ps.length)
    (hb : ∀ (cdv : Value) (A : Around) (outer : List PySem.Env) (s : Shared) (H : Hp) (E : XK), Room k (A.deeper (envOfC qual (defScope st) s.heap.objs.size f cdv)) → (A.deeper (envOfC qual (defScope st) s.heap.objs.size f cdv)).guards = some [] → LSs (cxOf CX0 P w K mg base N qual (defScope st) f cdv A outer s H E).nox (defBody st) ir)
    (hsp : ∀ args Q, S.sp args Q → ir (endsOf args Q) (rho0 N args)) : FnG P w K mg base CX0 (k + 1) f fd ps (liftC K S) := by
  refine funG Fn Sc (fun vs H Q E h => ?_) fun cdv A outer s H vs Q E hr hgd h => ?_
  · obtain ⟨args, F, ios, Qd, _, a, _, _, _, h, _⟩ := h
    rw [← a.length]; exact len args Qd h
  · obtain ⟨args, F, ios, Qd, s0, a, hn, hH, ht, h, c⟩ := h
    refine ⟨_, (hb cdv A outer s H E hr hgd).p, ?_⟩
    have R := Rel.start (N := N) s0 a hn hH ht
    have fin : ∀ (l : Lc) (ρ : En) (v : V) (σ : L2.St) (H' F' : Hp), retOk args Qd l ρ → Rel K ⟨H, F, ios⟩ ρ F' σ H' → Same F F' → RsOk K ⟨H, F, ios⟩ F' H' ρ σ l v → Q v H' := by
      intro l ρ v σ H' F' hq R' s' r
      unfold retOk at hq
      split at hq
      · rename_i outs eo
        obtain ⟨o1, o2⟩ := outsAt_ok R' eo
        have ol : outs.length = ios.length := by rw [o1, ioSlots_length, ht, List.length_range]
        have mkP : ∀ {l : Lc} {F'' : Hp}, Rel K ⟨H, F, ios⟩ ρ F'' σ H' → RsOk K ⟨H, F, ios⟩ F'' H' ρ σ l v → Post K F H ios l outs v F'' H' := fun {l F''} R2 r2 => by
          obtain ⟨_, o3⟩ := outsAt_ok R2 eo
          refine ⟨R2.ff, R2.fh, R2.fr, R2.nw, ol, fun k m em => ?_, ?_⟩
          · obtain ⟨a, o, z⟩ := o3 k m em
            rw [Nat.zero_add] at z
            exact ⟨a, o, z⟩
          · cases l with
            | d x => exact r2
            | sc u => exact r2
            | ls p xs => obtain ⟨a, e1, e2, ⟨nf, ow, o, eo, ok⟩, _⟩ := r2; rw [e2] at ow; exact ⟨a, o, e1, ow, nf, eo, ok, e2⟩
            | dk p xs => obtain ⟨a, e1, e2, ⟨nf, ow, o, eo, ok⟩, _⟩ := r2; rw [e2] at ow; exact ⟨a, o, e1, ow, nf, eo, ok, e2⟩
            | dt p xs => obtain ⟨a, e1, e2, ⟨nf, ow, o, eo, ok⟩, _⟩ := r2; rw [e2] at ow; exact ⟨a, o, e1, ow, nf, eo, ok, e2⟩
        have frz : ∀ l, RsOk K ⟨H, F, ios⟩ F' H' ρ σ l v → (Qd l outs ∨ (l.fz = true ∧ Qd (.d l.pd) outs)) → Q v H' := fun l r hq => by
          rcases hq with hq | ⟨hz, hq⟩
          · exact c _ _ v F' H' hq (mkP R' r)
          · obtain ⟨F2, R2, _, d⟩ := r.freeze R' hz
            exact c _ _ v F2 H' hq (mkP (l := .d l.pd) R2 d)
        split at hq
        · exact c _ _ v F' H' hq (mkP R' r)
        · exact frz _ r hq
      · exact False.elim hq
    exact ⟨⟨H, F, ios⟩, rho0 N args, F, endsOf args Qd, R, hsp args Qd h, ⟨fun ρ σ H' F' hq R' s' => fin (.d .none) ρ .non σ H' F' hq R' s' (show Df K F' .non .none from .non), fun l ρ v σ H' F' hq R' s' r => fin l ρ v σ H' F' hq R' s' r, fun _ _ _ _ z => False.elim z, fun _ _ _ _ z => False.elim z⟩⟩

/-- a def of the text that stands by its name -/
structure Dn (K : PySem.W.Frag) (mg : Str → Option Value) (n : Str) (st : Stmt) (ps : List Str) : Prop where
  ex : ∃ f fd, Fun K n n st f fd ∧ mg n = some (.ref f) ∧ Binds K fd ps []
/-- a def that may be called by its name -/
structure Cal (P : Program) (w : World) (K : PySem.W.Frag) (mg : Str → Option Value) (base : Heap) (k : Nat) (n : Str) (ps : List Str) (S : FSpec) : Prop where
  ex : ∃ f fd, FnG P w K mg base CX0 k f fd ps (liftC K S) ∧ mg n = some (.ref f) ∧ PySem.W.keepIn K (.ref f) = true ∧ Binds K fd ps []
theorem Cal.mono (h : Cal P w K mg base j n ps S) (hk : j ≤ k) : Cal P w K mg base k n ps S := by
  obtain ⟨f, fd, h1, h2⟩ := h.ex
  exact ⟨f, fd, h1.mono hk, h2⟩
theorem LF.cal (C : Cal X.prog X.w X.K X.mg X.base k n ps S) (hr : Room k X.A) (hgd : X.A.guards = some []) (hg : Gl X n) (ha : LA X (e :: es) tt)
    (hdb : (n == ("__debug__" : Str)) = false := by decide) (he : starEach (e :: es) X.env = (false, eval e X.env) :: starEach es X.env := by rfl) (hpl : (backTo pos (starEach es X.env)).any (·.1) = false := by rfl) :
    LF X (.Call (.Name n p) (e :: es) [] pos) (fCall S tt) := by
  obtain ⟨f, fd, h1, h2, h3, h4⟩ := C.ex
  exact LF.call h1 hr hgd hg h2 h3 h4 ha hdb he hpl
theorem def_cal {N : List Str} {ir : TSt} (D : Dn K mg n st ps) (Sc : FnScope N ps (defScope st)) (len : ∀ args Q, S.sp args Q → args.length = ps.length)
    (hb : ∀ (f : Addr) (cdv : Value) (A : Around) (outer : List PySem.Env) (s : Shared) (H : Hp) (E : XK), Room k (A.deeper (envOfC n (defScope st) s.heap.objs.size f cdv)) → (A.deeper (envOfC n (defScope st) s.heap.objs.size f cdv)).guards = some [] → LSs (cxOf CX0 P w K mg base N n (defScope st) f cdv A outer s H E).nox (defBody st) ir)
    (hsp : ∀ args Q, S.sp args Q → ir (endsOf args Q) (rho0 N args)) : Cal P w K mg base (k + 1) n ps S := by
  obtain ⟨f, fd, h1, h2, h3⟩ := D.ex
  exact ⟨f, fd, def_ok h1 Sc len (hb f) hsp, h2, h1.kp, h3⟩
/-- a constant of the text -/
structure Glb (K : PySem.W.Frag) (mg : Str → Option Value) (n : Str) (d : PD) : Prop where
  ex : ∃ v u, mg n = some u ∧ RelV v u ∧ ∀ F, Df K F v d
theorem LD.glb {d : PD} (h : Glb X.K X.mg n d) (hg : Gl X n) (hd : (n == ("__debug__" : Str)) = false := by decide) : LD X (.Name n pos) (dC d) := by
  obtain ⟨v, u, h1, h2, h3⟩ := h.ex
  exact LD.glob hg h1 h2 h3 hd

/-! ### a comprehension's names -/
def FreeOk (sc : Scope) : List Str → Prop
  | [] => True
  | x :: r => (sc.names.lookup x = some .cell ∨ sc.names.lookup x = some .free) ∧ FreeOk sc r
theorem FreeOk.mem {sc : Scope} : ∀ {xs : List Str} {x : Str}, FreeOk sc xs → x ∈ xs → sc.names.lookup x = some .cell ∨ sc.names.lookup x = some .free
  | [], x, _, h => by simp at h
  | y :: r, x, h, hx => by
    rcases List.mem_cons.mp hx with rfl | hx
    · exact h.1
    · exact FreeOk.mem h.2 hx
def blkChk (N : List Str) (scope : Scope) (own : List (Str × Nat)) (frees : List Str) : Bool :=
  decide (scope.kind = .function) && scope.names.all (fun y => decide (scope.names.lookup y.1 = some y.2)) && own.all (fun p => decide (N[p.2]? = some p.1)) &&
  scope.names.all (fun y => !decide (y.2 = .free) || decide (y.1 ∈ frees)) && scope.names.all (fun y => !(decide (y.2 = .local) || decide (y.2 = .cell)) || decide (y.1 ∈ own.map (·.1)) || decide (y.1 ∉ N))
theorem blk_mk {N : List Str} {sc scope : Scope} {own : List (Str × Nat)} (frees : List Str) (h : blkChk N scope own frees = true) (hf : FreeOk sc frees) : BlkOk N sc scope own := by
  unfold blkChk at h
  simp only [Bool.and_eq_true, List.all_eq_true, Bool.or_eq_true, Bool.not_eq_true', decide_eq_true_eq, decide_eq_false_iff_not] at h
  obtain ⟨⟨⟨⟨h1, h2⟩, h3⟩, h4⟩, h5⟩ := h
  refine ⟨h1, h2, h3, fun y hy e => hf.mem ((h4 y hy).resolve_left fun z => z e), fun y hy e => ?_⟩
  rcases h5 y hy with (z | z) | z
  · simp only [Bool.or_eq_false_iff, decide_eq_false_iff_not] at z
    exact e.elim (fun q => absurd q z.1) fun q => absurd q z.2
  · exact .inl z
  · exact .inr z
end

/-- a slice of the script -/
def dSlS (i : Nat) (lo hi : TPd) : TD := fun ρ Q => match ρ[i]? with
  | some (some (.sc xs)) => lo ρ fun a ρ1 => hi ρ1 fun b ρ2 => Q (.list (cutD xs a b)) ρ2
  | _ => False
theorem LD.slS {X : Cx} {e : Expr} {lo hi : Option Expr} {tl th : TPd} {p2 pos : Pos} (i : Nat) (he : PE X e (tVar i)) (hl : LP X lo tl) (hh : LP X hi th) : LD X (.Subscript e (.Slice lo hi none p2) pos) (dSlS i tl th) :=
  ⟨peImp (pe_slice sl_list he hl.p hh.p) fun σ H Q ⟨G, ρ, F, Q', R, q, c⟩ => by
    unfold dSlS at q
    split at q
    · rename_i xs er
      obtain ⟨v, es, a, vs, rfl, hq, ds⟩ := R.sl i _ er
      refine ⟨_, es, G, ρ, F, _, R, q, fun x ρ1 H1 F1 h1 R1 s1 => ⟨G, ρ1, F1, _, R1, h1, fun y ρ2 H2 F2 h2 R2 s2 => ?_⟩⟩
      have s12 := s1.trans s2
      refine ⟨a, vs, rfl, R2.fh.seq (s12.seq hq), fun p hp => ?_⟩
      have g := Grow.frozen R2.fh hp (.lst (cutV vs x y))
      exact c _ _ _ _ _ h2 (R2.grow g) (s12.trans g.ff) (.lst (.inl upd_same) ((cut_df ds x y).mono (s12.trans g.ff)))
    · exact False.elim q⟩

/-! ### a law's end -/
section
variable {P : Program} {w : World} {K : PySem.W.Frag} {mg mb : Str → Option Value} {k : Nat} {fa a : Addr} {fd : FuncData} {x : Str} {sp : Sp} {s0 : Shared} {vs : List Value} {ns : List Int}
/-- the law's call, at the heap behind the top -/
theorem callG (KX : K.In s0.heap) (hns : s0.heap.Ns mainGlobals mg) (hb : s0.heap.Ns builtinsNs mb) (hbb : ∀ x : Str, x ≠ "__name__" → mb x = bootBuiltins x) (hlim : s0.heap.NoLimit) (hdig : s0.heap.NoDigits) (hg : s0.gens = #[])
    (ha : s0.heap.get? a = some { cls := .type "list", data := .seq vs.toArray }) (hi : IntsAre vs ns) (hl : ns.length ≤ sizeLine) (hr : Room k callerA)
    (Fn : ∀ base : Heap, K.In base → base.Ns mainGlobals mg → base.NoDigits → FnG P w K mg base CX0 k fa fd [x] sp) (hbind : ∀ (s : Shared) (u : Value), BindsTo s fd ⟨[u], []⟩ [(x, u)])
    (hsp : ∀ H : Hp, L2.Only H → SqL K H a (ns.map V.int) → sp [.ref a] H (fun v _ => v = .bl true) fun _ _ _ => False) :
    codeAny (model P w) callerA (.call (.ref fa) ⟨[.ref a], []⟩) (fun r s' => r = .ok (.ret (.bool true)) ∧ OldK s0.heap s'.heap ∧ s'.os = s0.os ∧ AllBare s'.gens) s0 := by
  have rv := vals_ints hi
  have lenV := hi.length
  have main : ∀ H : Hp, L2.Only H → SqL K H a (ns.map V.int) → HOk P w H s0.heap → (∀ b, H b ≠ none → b = a) → (H a ≠ none → K.lookup a = none) →
      codeAny (model P w) callerA (.call (.ref fa) ⟨[.ref a], []⟩) (fun r s' => r = .ok (.ret (.bool true)) ∧ OldK s0.heap s'.heap ∧ s'.os = s0.os ∧ AllBare s'.gens) s0 := by
    intro H only sq hok one inK
    -- what is no list stands in the base, too
    have noDict : ∀ {b : Addr} {o : Obj} {es : Array DictEntry} {ep : Nat}, s0.heap.get? b = some o → o.data = .dict es ep → H b = none := fun {b o es ep} e d => by
      by_cases z : H b = none
      · exact z
      · have : b = a := one b z
        subst this
        rw [ha] at e; cases e; cases d
    have ns' : ∀ {b : Addr} {m : Str → Option Value}, s0.heap.Ns b m → (hidT s0.heap H).Ns b m := fun ⟨o, es, ep, e, d, r⟩ => ⟨o, es, ep, hidT_get e (noDict e d), d, r⟩
    have kin : K.In (hidT s0.heap H) := fun b o e => hidT_get (KX b o e) (by
      by_cases z : H b = none
      · exact z
      · have q : b = a := one b z
        subst q
        have := inK z
        rw [this] at e; cases e)
    have mod : Mod K mg (hidT s0.heap H) := ⟨kin, ns' hns, ⟨mb, ns' hb, hbb⟩, let ⟨mc, h1, h2⟩ := hlim; ⟨mc, ns' h1, h2⟩⟩
    have dig : (hidT s0.heap H).NoDigits := let ⟨mc, h1, h2⟩ := hdig; ⟨mc, ns' h1, h2⟩
    have env0 : Env0 P w K mg (hidT s0.heap H) callerA [] s0 H := ⟨rfl, mod, fun b o e => of_hidT e, Nat.le_of_eq (hidT_size _ _), trivial, fun b z => (by cases z), hok, .of_eq hg⟩
    refine codeAny_mono ((Fn _ kin (ns' hns) dig).run callerA [] s0 H ⟨[.ref a], []⟩ [.ref a] [.ref a] _ _ hr rfl env0 (hbind s0 (.ref a)) (.cons rfl .nil) (hsp H only sq)) fun r s' h => ?_
    rcases r with e | fl
    · exact False.elim h
    · cases fl <;> first | exact False.elim h | skip
      rename_i u
      obtain ⟨v, H', os, bare, un, hok', r', q⟩ := h
      have q : v = .bl true := q
      subst q
      have r' : u = Value.bool true := r'
      subst r'
      refine ⟨rfl, OldK.of_keep fun b o e => ?_, os, bare⟩
      rcases only b with z | ⟨ob, xs, z⟩
      · exact un.keep b o e z (fun hm => by cases hm) (fun hm => by cases hm)
      · have z2 := un.frzs b ob _ z
        have e1 := (hok b _ z).1
        have e2 := (hok' b _ z2).1
        rw [e] at e1; cases e1; exact e2
  cases hk : K.lookup a with
  | some o =>
    have e := KX a o hk
    rw [ha] at e
    cases e
    refine main (fun _ => none) (fun _ => .inl rfl) (.inr ⟨_, vs.toArray, _, hk, rfl, rfl, rfl, ?_, by simpa using rv⟩) (fun b u z => by cases z) (fun b z => absurd rfl z) fun z => absurd rfl z
    simp only [List.size_toArray, lenV]; exact hl
  | none =>
    let H : Hp := fun b => if b = a then some (.frz { cls := .type "list", data := .seq vs.toArray } (.lst (ns.map V.int))) else none
    have at_ : H a = some (.frz { cls := .type "list", data := .seq vs.toArray } (.lst (ns.map V.int))) := if_pos rfl
    have off : ∀ {b}, b ≠ a → H b = none := fun z => if_neg z
    refine main H (fun b => ?_) (.inl (.inr ⟨_, at_⟩)) (fun b u z => ?_) (fun b z => ?_) fun _ => hk
    · by_cases hb : b = a
      · subst hb; exact .inr ⟨_, _, at_⟩
      · exact .inl (off hb)
    · by_cases hb : b = a
      · subst hb
        rw [at_] at z
        cases z
        refine ⟨ha, ?_, vs, _, rv, ha⟩
        simp only [List.length_map]; exact hl
      · rw [off hb] at z; cases z
    · by_cases hb : b = a
      · exact hb
      · exact absurd (off hb) z
/-- what the law's def promises: True for every list of ints -/
def lawS : FSpec := ⟨fun args Q => ∃ ns : List Int, args = [.sc (ns.map .int)] ∧ ns.length ≤ 63 ∧ Q (.d (.bool true)) []⟩
theorem lawS_end {H : Hp} (hS : SqL K H a (ns.map V.int)) (hl : ns.length ≤ 63) : liftC K lawS [.ref a] H (fun v _ => v = .bl true) fun _ _ _ => False := by
  refine ⟨[.sc (ns.map .int)], H, [], fun r outs => r = .d (.bool true), Same.refl _, .cons ⟨a, _, rfl, hS, DfA.ints ns⟩ .nil, List.nodup_nil, (fun a h => by cases h), rfl, ⟨ns, rfl, hl, rfl⟩, fun r outs v F' H' e Po => ?_⟩
  subst e
  have := Po.rs
  cases this
  rfl
open PySem.W in
/-- the goal that k_head leaves -/
theorem walkG {l : PySem.W.OpenLaw} {q : Program} {loose : List Str} {XP : (Str → Option Value) → Heap → Prop} {YP : World → Heap → Prop} {d : DefRec} {K : Params → PySem.W.Frag} {x : Str}
    (hn : l.most = some 63) (hdf : d.params.defaults = []) (hr : Room k callerA) (hY : ∀ (w : World) (h : Heap), YP w h → (K w.params).In h)
    (Fn : ∀ (w : World) (mg : Str → Option Value) (fa : Addr) (h : Heap), (K w.params).In h → h.Ns mainGlobals mg → mg d.name = some (.ref fa) →
      ∃ fd : FuncData, (∀ (s : Shared) (u : Value), BindsTo s fd ⟨[u], []⟩ [(x, u)]) ∧ ∀ base : Heap, (K w.params).In base → base.Ns mainGlobals mg → base.NoDigits → FnG l.prog w (K w.params) mg base CX0 k fa fd [x] (liftC (K w.params) lawS)) :
    PySem.W.WalkO q loose XP YP l.row.toRowW d [] (fun f vs => PySem.call f vs) := by
  refine Att.attach_call hn hdf fun w s₀ s₁ mg mb fa o pm cd doc a vs ns G Y ho hd hcd hmg hobj hints hlen hg => ?_
  have KX := hY w _ Y
  obtain ⟨fd, hb, hF⟩ := Fn w mg fa _ KX G.T.g hmg
  exact callG KX G.T.g G.T.b G.T.builtins G.T.nolimit G.T.nodigits hg hobj hints (Nat.le_trans hlen (by decide)) hr hF hb fun H _ hS => lawS_end hS hlen
end
end DL
/-! The data layer, part j: repr. -/
namespace DL
open PySem L2 PyProof.Rows

mutual
/-- what repr shows here: no dict, ints of at most 4300 figures -/
def shw : PD → Bool
  | .int i => decide (i.natAbs < 10 ^ 4300)
  | .list xs => shwA xs
  | .tuple xs => shwA xs
  | .dict _ => false
  | .none => true
  | .bool _ => true
  | .str _ => true
def shwA : List PD → Bool
  | [] => true
  | x :: r => shw x && shwA r
end
section
variable {prog : Program} {w : World} {A : Around} {E : Value → Shared → Prop} {s : Shared} {a : Int} {t : Tok}
theorem intCallW {Q : Value → Shared → Prop} (hn : s.heap.NoDigits) (hl : a.natAbs < 10 ^ 4300) (h : Q (.str (toString a) s.toks) { s with toks := s.toks + 1 }) :
    wpAny (model prog w) A (call (.builtin "int.__repr__") [.int a t]) Q E s := by
  refine wpAny_call_entry F.slot_int_repr (typeIs_int s a t) F.entry_int_repr ?_ (F.args_int_repr_1 _); unfold Builtin.«int.__repr__»
  show wpAny _ _ (do let r ← Builtin.overDigitLimit? a; _) _ _ s; refine wpAny_bind (overDigitLimit_any hn (fun l => ?_) (fun g => absurd hl (Nat.not_lt.mpr g)))
  exact wpAny_bind (wpAny_mkStr (wpAny_pure ⟨_, rfl, h⟩) (int_text_fits10 hl))
theorem intReprW {Q : Value → Shared → Prop} (hu : A.units + 1 < cLine) (hn : s.heap.NoDigits) (hl : a.natAbs < 10 ^ 4300) (h : Q (.str (toString a) s.toks) { s with toks := s.toks + 1 }) :
    wpAny (model prog w) A (pyReprObj (.int a t)) Q E s :=
  wpAny_pyReprObj_slot (by omega) (typeIs_int s a t) F.slot_int_repr.toG (intCallW hn hl ⟨_, _, rfl, h⟩)
variable {h₀ : Heap}
mutual
theorem rk_of (hn : h₀.NoDigits) : ∀ {v : Value} {d : PD} {as : List Addr}, Reads h₀ v d as → shw d = true → d.shown.length ≤ sizeLine → ∃ bs, ReadAtMost h₀ (d.depth + 1) bs ∧ (∀ b ∈ bs, ∃ e as, Reads h₀ (.ref b) e as ∧ e.depth ≤ d.depth) ∧ ReprK prog w bs h₀ (d.depth + 1) v d.shown
  | _, _, _, .none, _, _ => ⟨[], (fun _ h => nomatch h), (fun _ h => nomatch h), by rw [PyData.shown]; exact .of_is ReprIs.none _ _ _⟩
  | _, _, _, .bool b, _, _ => ⟨[], (fun _ h => nomatch h), (fun _ h => nomatch h), by rw [PyData.shown]; exact .of_is (ReprIs.bool b) _ _ _⟩
  | _, _, _, .str x t, _, hz => ⟨[], (fun _ h => nomatch h), (fun _ h => nomatch h), by rw [PyData.shown] at hz ⊢; exact .of_is (ReprIs.str x t hz) _ _ _⟩
  | _, _, _, .int i t, hs, hz => ⟨[], (fun _ h => nomatch h), (fun _ h => nomatch h), by
      rw [PyData.shown]
      intro base hb A g E s Q hg hc hu hk hQ
      rw [pyReprUnder_leaf (v := .int i t) (by omega) (fun _ e => nomatch e)]
      unfold pyRepr
      exact wpAny_bind (intReprW (by simp only [PyData.depth] at hu; omega) (hn.keeps hk) (by simpa [shw] using hs) (wpAny_pure (hQ s.heap _ fun _ _ e => e)))⟩
  | _, _, _, .dict _ _ _ _ _, hs, _ => by simp [shw] at hs
  | _, _, _, .list (a := a) (vs := vs) (xs := xs) h1 h2 h3 h4, hs, hz => by
    rw [PyData.shown] at hz ⊢
    obtain ⟨bs, hb, hb2, hk⟩ := rkA_of hn h4 (by simpa [shw] using hs) (fun t ht => Nat.le_trans (listText_mem_le ht) hz)
    have r : Reads h₀ (.ref a) (.list xs) _ := .list h1 h2 h3 h4
    have dd : (PyData.list xs).depth = PyData.depthAll xs + 1 := by first | rfl | (simp only [PyData.depth]; done) | (simp only [PyData.depth]; omega)
    have hna : a ∉ bs := fun hm => by
      obtain ⟨e, as', r', le⟩ := hb2 a hm
      obtain ⟨q, _⟩ := reads_det (fun _ _ e _ => e) r r'
      rw [q, dd] at le
      omega
    have all : ∀ b ∈ a :: bs, ∃ e as, Reads h₀ (.ref b) e as ∧ e.depth ≤ (PyData.list xs).depth := fun b hm => by
      rcases List.mem_cons.mp hm with q | hm
      · subst q; exact ⟨_, _, r, Nat.le_refl _⟩
      · obtain ⟨e, as', r', le⟩ := hb2 b hm; exact ⟨e, as', r', by omega⟩
    refine ⟨a :: bs, fun b hm => let ⟨e, as', r', le⟩ := all b hm; ⟨e, as', r', by omega⟩, all, ?_⟩
    rw [dd]
    obtain ⟨l⟩ := vs
    cases l with
    | nil =>
      have h4' : ReadsAll h₀ [] xs _ := h4
      cases h4'
      rw [PyData.shownAll, listText_nil]
      exact ReprK.listEmpty h1 h2 h3
    | cons x l => exact ReprK.list h1 h2 h3 hna (by simpa using hk.length_eq) (fun i y e => hk.item i y (by simpa using e))
  | _, _, _, .tuple (a := a) (xs := xs) h1 h2 h3 h4, hs, hz => by
    rw [PyData.shown] at hz ⊢
    obtain ⟨bs, hb, hb2, hk⟩ := rkA_of hn h4 (by simpa [shw] using hs) (fun t ht => Nat.le_trans (tupleText_mem_le ht) hz)
    have r : Reads h₀ (.ref a) (.tuple xs) _ := .tuple h1 h2 h3 h4
    have dd : (PyData.tuple xs).depth = PyData.depthAll xs + 1 := by first | rfl | (simp only [PyData.depth]; done) | (simp only [PyData.depth]; omega)
    have hna : a ∉ bs := fun hm => by
      obtain ⟨e, as', r', le⟩ := hb2 a hm
      obtain ⟨q, _⟩ := reads_det (fun _ _ e _ => e) r r'
      rw [q, dd] at le
      omega
    have all : ∀ b ∈ a :: bs, ∃ e as, Reads h₀ (.ref b) e as ∧ e.depth ≤ (PyData.tuple xs).depth := fun b hm => by
      rcases List.mem_cons.mp hm with q | hm
      · subst q; exact ⟨_, _, r, Nat.le_refl _⟩
      · obtain ⟨e, as', r', le⟩ := hb2 b hm; exact ⟨e, as', r', by omega⟩
    refine ⟨a :: bs, fun b hm => let ⟨e, as', r', le⟩ := all b hm; ⟨e, as', r', by omega⟩, all, ?_⟩
    rw [dd]
    exact ReprK.tuple h1 h2 h3 hna hk
theorem rkA_of (hn : h₀.NoDigits) : ∀ {vs : List Value} {ds : List PD} {as : List Addr}, ReadsAll h₀ vs ds as → shwA ds = true → (∀ t ∈ PyData.shownAll ds, t.length ≤ sizeLine) →
    ∃ bs, ReadAtMost h₀ (PyData.depthAll ds + 1) bs ∧ (∀ b ∈ bs, ∃ e as, Reads h₀ (.ref b) e as ∧ e.depth ≤ PyData.depthAll ds) ∧ ReprAllK prog w bs h₀ (PyData.depthAll ds + 1) vs (PyData.shownAll ds)
  | _, _, _, .nil, _, _ => ⟨[], (fun _ h => nomatch h), (fun _ h => nomatch h), by rw [PyData.shownAll]; exact .nil⟩
  | _, _, _, .cons (d := d) (ds := ds) r rs, hs, hz => by
    have hs' : shw d = true ∧ shwA ds = true := by simpa [shwA] using hs
    rw [PyData.shownAll] at hz ⊢
    obtain ⟨b1, hb1, hc1, k1⟩ := rk_of hn r hs'.1 (hz _ List.mem_cons_self)
    obtain ⟨b2, hb2, hc2, k2⟩ := rkA_of hn rs hs'.2 (fun t ht => hz t (List.mem_cons_of_mem _ ht))
    have m1 : d.depth ≤ PyData.depthAll (d :: ds) := by simp only [PyData.depthAll]; exact Nat.le_max_left _ _
    have m2 : PyData.depthAll ds ≤ PyData.depthAll (d :: ds) := by simp only [PyData.depthAll]; exact Nat.le_max_right _ _
    have all : ∀ b ∈ b1 ++ b2, ∃ e as, Reads h₀ (.ref b) e as ∧ e.depth ≤ PyData.depthAll (d :: ds) := fun b hm => by
      rcases List.mem_append.mp hm with hm | hm
      · obtain ⟨e, as', r', le⟩ := hc1 b hm; exact ⟨e, as', r', by omega⟩
      · obtain ⟨e, as', r', le⟩ := hc2 b hm; exact ⟨e, as', r', by omega⟩
    exact ⟨b1 ++ b2, fun b hm => let ⟨e, as', r', le⟩ := all b hm; ⟨e, as', r', by omega⟩, all,
      .cons ((k1.more fun b hb => List.mem_append_left _ hb).level_le (by omega)) (k2.more_le (fun b hb => List.mem_append_right _ hb) (by omega))⟩
end
/-- repr of a list or tuple -/
theorem reprW (hn : h₀.NoDigits) {b : Addr} {d : PD} {as : List Addr} {Q : Value → Shared → Prop} (r : Reads h₀ (.ref b) d as) (hs : shw d = true) (hz : d.shown.length ≤ sizeLine) (hg : A.guards = some []) (hu : A.units + (d.depth + 2) < cLine)
    (hk0 : ∀ b o, h₀.get? b = some o → s.heap.get? b = some o) (hQ : ∀ h' u tk, (∀ b o, s.heap.get? b = some o → h'.get? b = some o) → Q (.str d.shown u) { s with heap := h', toks := tk }) :
    wpAny (model prog w) A (call (.builtin "repr") [.ref b]) Q E s := by
  cases r with
  | dict _ _ _ _ _ => simp [shw] at hs
  | list h1 h2 h3 h4 =>
    rename_i o vs n xs bs₀
    rw [PyData.shown] at hz
    simp only [PyData.shown] at hQ
    obtain ⟨bs, hb, hb2, hk⟩ := rkA_of (prog := prog) (w := w) hn h4 (by simpa [shw] using hs) (fun t ht => Nat.le_trans (listText_mem_le ht) hz)
    have r : Reads h₀ (.ref b) (.list xs) _ := .list h1 h2 h3 h4
    have dd : (PyData.list xs).depth = PyData.depthAll xs + 1 := by first | rfl | (simp only [PyData.depth]; done) | (simp only [PyData.depth]; omega)
    have hna : b ∉ bs := fun hm => by
      obtain ⟨e, as', r', le⟩ := hb2 b hm
      obtain ⟨q, _⟩ := reads_det (fun _ _ e _ => e) r r'
      rw [q, dd] at le
      omega
    rw [dd] at hu
    refine call_repr_slot (by omega) ⟨o, hk0 _ _ h1, h2⟩ F.slot_list_repr.toG ?_
    obtain ⟨l⟩ := vs
    cases l with
    | nil =>
      have h4' : ReadsAll h₀ [] xs _ := h4
      cases h4'
      simp only [PyData.shownAll, listText_nil] at hQ
      exact call_list_repr_empty ⟨o, hk0 _ _ h1, h2⟩ (hk0 _ _ h1) h3 ⟨_, _, rfl, hQ s.heap _ _ fun _ _ e => e⟩
    | cons x l =>
      exact call_list_reprK h1 h2 h3 hna (by simpa using hk.length_eq) (fun i y e => hk.item i y (by simpa using e)) hg (fun b _ => Clear.nil b) (by show A.units + 1 + _ < cLine; omega) hk0 (fun h' u tk hk => ⟨_, _, rfl, hQ h' u tk hk⟩) hz
  | tuple h1 h2 h3 h4 =>
    rename_i o vs n xs
    rw [PyData.shown] at hz
    simp only [PyData.shown] at hQ
    obtain ⟨bs, hb, hb2, hk⟩ := rkA_of (prog := prog) (w := w) hn h4 (by simpa [shw] using hs) (fun t ht => Nat.le_trans (tupleText_mem_le ht) hz)
    have r : Reads h₀ (.ref b) (.tuple xs) _ := .tuple h1 h2 h3 h4
    have dd : (PyData.tuple xs).depth = PyData.depthAll xs + 1 := by first | rfl | (simp only [PyData.depth]; done) | (simp only [PyData.depth]; omega)
    have hna : b ∉ bs := fun hm => by
      obtain ⟨e, as', r', le⟩ := hb2 b hm
      obtain ⟨q, _⟩ := reads_det (fun _ _ e _ => e) r r'
      rw [q, dd] at le
      omega
    rw [dd] at hu
    refine call_repr_slot (by omega) ⟨o, hk0 _ _ h1, h2⟩ F.slot_tuple_repr ?_
    exact call_tuple_reprK h1 h2 h3 hna hk hg (fun b _ => Clear.nil b) (by show A.units + 1 + _ < cLine; omega) hk0 (fun h' u tk hk => ⟨_, _, rfl, hQ h' u tk hk⟩) hz
end

section
variable {X : Cx} {K : PySem.W.Frag} {F H : Hp}
/-- repr of data without dicts -/
def rRepr (K : PySem.W.Frag) : List V → Hp → VK → Prop := fun vs H Q => ∃ v d, vs = [v] ∧ Dp K H v d ∧ shw d = true ∧ d.depth ≤ 60 ∧ d.shown.length ≤ sizeLine ∧ Q (.str d.shown) H
def bRepr : FN
  | [d], k => (noDict d = true ∧ shw d = true ∧ d.depth ≤ 60 ∧ d.shown.length ≤ sizeLine) ∧ k (.str d.shown)
  | _, _ => False
theorem ok_repr : BiOk K bRepr (rRepr K) := by
  intro F H vs xs k Q s d h c
  unfold bRepr at h
  split at h
  · obtain ⟨v, rfl, d1⟩ := d.one
    obtain ⟨⟨h1, h2, h3, h4⟩, h5⟩ := h
    exact ⟨v, _, rfl, (d1.df s).dp h1, h2, h3, h4, c _ _ F H h5 (Grow.refl s) (.str _)⟩
  · exact False.elim h
theorem call_repr {k : Nat} (hr : Room k X.A) (hgd : X.A.guards = some []) (hnd : X.base.NoDigits) : CallR X (.builtin "repr") (rRepr X.K) := by
  intro pins s σ H xs us Q I r ⟨v, d, ev, dp, hs, hd, hz, q⟩
  subst ev
  obtain ⟨u, rfl, ru⟩ := vals1 r
  have hu := hr.units
  have nd : s.heap.NoDigits := hnd.keeps I.bk
  obtain ⟨as, rd⟩ := Dp.reads I d v u dp ru
  have fin : ∀ (h' : Heap) (x : Tok) (tk : Nat), (∀ b o, s.heap.get? b = some o → h'.get? b = some o) → EP X pins σ Q (.str d.shown x) { s with heap := h', toks := tk } := fun h' x tk hk => ⟨.str d.shown, H, I.kept (t' := tk) hk, ⟨_, rfl⟩, q⟩
  cases rd with
  | none =>
    have z := fin s.heap s.toks (s.toks + 1) (fun _ _ e => e)
    rw [PyData.shown] at z
    exact call_repr_gives (typeIs_none s) F.slot_NoneType_repr F.entry_NoneType_repr (F.args_NoneType_repr_1 _) gives_none_repr z (hx := by decide)
  | bool b =>
    have z := fin s.heap s.toks (s.toks + 1) (fun _ _ e => e)
    rw [PyData.shown] at z
    exact call_repr_gives (PySem.typeIs_bool s b) F.slot_bool_repr F.entry_bool_repr (F.args_bool_repr_1 _) (gives_bool_repr b) z (hx := by cases b <;> decide)
  | str x t =>
    have z := fin s.heap s.toks (s.toks + 1) (fun _ _ e => e)
    rw [PyData.shown] at z hz
    exact call_repr_gives (typeIs_str s x t) F.slot_str_repr F.entry_str_repr (F.args_str_repr_1 _) (gives_str_repr x t) z (hx := hz)
  | int i t =>
    refine call_repr_slot (by omega) (typeIs_int s i t) F.slot_int_repr.toG (intCallW nd (by simpa [shw] using hs) ⟨_, _, rfl, ?_⟩)
    have := fin s.heap s.toks (s.toks + 1) (fun _ _ e => e)
    rw [PyData.shown] at this; exact this
  | list h1 h2 h3 h4 => exact reprW nd (.list h1 h2 h3 h4) hs hz hgd (by omega) (fun _ _ e => e) fin
  | tuple h1 h2 h3 h4 => exact reprW nd (.tuple h1 h2 h3 h4) hs hz hgd (by omega) (fun _ _ e => e) fin
  | dict h1 h2 h3 h4 h5 => simp [shw] at hs
end
end DL
/-! The data layer, part k: more forms. -/
namespace DL
open PySem L2 PyProof.Rows

section
variable {G : Gm} {X : Cx} {K : PySem.W.Frag} {F F' H H' : Hp} {ρ : En} {σ : L2.St} {e e2 e3 : Expr} {es : List Expr} {pos : Pos} {r r' : R2} {f f' : F2} {oa ob oc : Op1} {ta tb tc : TD} {t u : TTd}
theorem tTest_of {te : TE} (ht : ∀ Q, liftD K ta σ H Q → te σ H Q) {Q : Bool → Hp → Prop} (h : liftT K (tVal ta) σ H Q) : tTest te σ H Q := by
  obtain ⟨G, ρ, F, Q', R, q, c⟩ := h
  refine ht _ ⟨G, ρ, F, _, R, q, fun x ρ1 v H1 F1 h1 R1 s1 d => ?_⟩
  split at h1
  · cases d
    exact ⟨_, rfl, c _ _ _ _ h1 R1 s1⟩
  · exact False.elim h1
theorem LT.cmp {op : CmpOp} (ho : OpR X (compareOp op) r) (hf : Op2Ok X.K f r) (ha : LO X e oa) (hb : LO X e2 ob) (hm : behindInMarks op e2 = false) : LT X (.Compare e [op] [e2] pos) (tVal (dBin f oa ob)) :=
  ⟨ptImp (pt_cmpR ho ha.p hb.p hm) fun _ _ _ h => tTest_of (fun _ z => tOp_of hf z) h⟩
theorem LT.chain {op op' : CmpOp} {p p' : Int → Int → Bool} (ho : OpR X (compareOp op) (rI0 fun i j => .bl (p i j))) (ho' : OpR X (compareOp op') (rI0 fun i j => .bl (p' i j))) (ha : LO X e oa) (hb : LO X e2 ob) (hc : LO X e3 oc)
    (hm : lastMarks [op, op'] [e2, e3] = false := by with_unfolding_all rfl) : LT X (.Compare e [op, op'] [e2, e3] pos) (tVal (dChain p p' oa ob oc)) :=
  ⟨ptImp (pt_chain ho ho' ha.p hb.p hc.p hm) fun _ _ _ h => tTest_of (fun _ z => tChain_of z) h⟩
end
end DL
/-! The data layer, part m: facts about data. -/
namespace DL
open PySem L2 PyProof.Rows
theorem shpI (i : Int) : shp (.int i) := ⟨rfl, rfl⟩
theorem shpN : shp .none := ⟨rfl, rfl⟩
theorem shpB (b : Bool) : shp (.bool b) := ⟨rfl, rfl⟩
theorem noDictA_map : ∀ xs : List PD, noDictA xs = xs.all noDict
  | [] => rfl
  | x :: r => by rw [noDictA, noDictA_map r]; rfl
theorem canLayAll_map : ∀ xs : List PD, PyData.canLayAll0 xs = xs.all PyData.canLay0
  | [] => rfl
  | x :: r => by rw [PyData.canLayAll0, canLayAll_map r]; rfl
theorem shwA_map : ∀ xs : List PD, shwA xs = xs.all shw
  | [] => rfl
  | x :: r => by rw [shwA, shwA_map r]; rfl
theorem depthAll_le {n : Nat} : ∀ {xs : List PD}, (∀ x ∈ xs, x.depth ≤ n) → PyData.depthAll xs ≤ n
  | [], _ => Nat.zero_le _
  | x :: r, h => by
    have h1 := h x List.mem_cons_self
    have h2 := depthAll_le (xs := r) fun y hy => h y (List.mem_cons_of_mem _ hy)
    simp only [PyData.depthAll]
    exact Nat.max_le.mpr ⟨h1, h2⟩
/-- what may be compared, part by part -/
structure Shp (n : Nat) (d : PD) : Prop where
  cl : d.canLay0 = true
  nd : noDict d = true
  dp : d.depth ≤ n
theorem Shp.shp {n : Nat} {d : PD} (h : Shp n d) (hn : n ≤ 64 := by decide) : shp d := by
  refine ⟨?_, h.nd⟩
  have := h.dp
  simp [SeqAt.shaped, h.cl]
  omega
theorem Shp.mono {n m : Nat} {d : PD} (h : Shp n d) (hn : n ≤ m) : Shp m d := ⟨h.cl, h.nd, Nat.le_trans h.dp hn⟩
theorem Shp.list {n : Nat} {xs : List PD} (h : ∀ x ∈ xs, Shp n x) : Shp (n + 1) (.list xs) := by
  refine ⟨?_, ?_, ?_⟩
  · rw [PyData.canLay0, canLayAll_map, List.all_eq_true]; exact fun x hx => (h x hx).cl
  · rw [noDict, noDictA_map, List.all_eq_true]; exact fun x hx => (h x hx).nd
  · simp only [PyData.depth]; exact Nat.succ_le_succ (depthAll_le fun x hx => (h x hx).dp)
theorem Shp.tup {n : Nat} {xs : List PD} (h : ∀ x ∈ xs, Shp n x) : Shp (n + 1) (.tuple xs) := by
  refine ⟨?_, ?_, ?_⟩
  · rw [PyData.canLay0, canLayAll_map, List.all_eq_true]; exact fun x hx => (h x hx).cl
  · rw [noDict, noDictA_map, List.all_eq_true]; exact fun x hx => (h x hx).nd
  · simp only [PyData.depth]; exact Nat.succ_le_succ (depthAll_le fun x hx => (h x hx).dp)
theorem Shp.int {n : Nat} (i : Int) : Shp n (.int i) := ⟨rfl, rfl, Nat.zero_le _⟩
theorem Shp.str {n : Nat} {x : Str} (h : PyData.canLay0 (.str x) = true) : Shp n (.str x) := ⟨h, rfl, Nat.zero_le _⟩
theorem Shp.ints (ns : List Int) {n : Nat} : ∀ x ∈ ns.map PyData.int, Shp n x := fun x hx => by
  obtain ⟨i, _, rfl⟩ := List.mem_map.mp hx
  exact .int i
theorem eqv_nil (xs : List PD) : PyData.eqv (.list xs) (.list []) = xs.isEmpty := by
  cases xs <;> simp [PyData.eqv, PyData.eqvAll]
theorem atI_some {α : Type} {xs : List α} {i : Int} (h0 : 0 ≤ i) (h1 : i < xs.length) : ∃ x, atI xs i = some x ∧ xs[i.toNat]? = some x := by
  have hk : i.toNat < xs.length := by omega
  refine ⟨xs[i.toNat], ?_, List.getElem?_eq_getElem hk⟩
  have e : i = ((i.toNat : Nat) : Int) := by omega
  have := atI_nat (List.getElem?_eq_getElem hk)
  rw [← e] at this
  exact this
theorem log2_lt {i : Int} {k : Nat} (h : i.natAbs < 2 ^ k) (hk : 0 < k) : i.natAbs.log2 < k := by
  by_cases z : i.natAbs = 0
  · rw [z]; simpa using hk
  · exact (Nat.log2_lt z).mpr h
theorem mulOk (a b : Nat) {i j : Int} (h1 : i.natAbs < 2 ^ a) (h2 : j.natAbs < 2 ^ b) (h : a + b ≤ 1000000 := by decide) (h3 : 0 < a := by decide) (h4 : 0 < b := by decide) : IntMulOk i j := by
  refine CMulW.ok ?_
  have x := log2_lt h1 h3
  have y := log2_lt h2 h4
  unfold CMulW
  omega
theorem intBits_le {i : Int} {k : Nat} (h : i.natAbs < 2 ^ k) : Builtin.Int.intBits i ≤ k := by
  unfold Builtin.Int.intBits
  by_cases z : i = 0
  · subst z; simp
  · have zz : (i == 0) = false := by simpa using z
    rw [zz]
    have := (Nat.log2_lt (n := i.natAbs) (k := k) (by omega)).mpr h
    simp only [Bool.false_eq_true, if_false]
    omega
theorem powOk {i j : Int} {k m : Nat} (h : i.natAbs < 2 ^ k) (h0 : 0 ≤ j) (h1 : j ≤ m) (hb : k * m ≤ 2 ^ 27 := by decide) : CPowW i j := by
  refine ⟨h0, ?_⟩
  have a := intBits_le h
  have b : (Builtin.Int.intBits i : Int) * j ≤ (k : Int) * m := Int.mul_le_mul (by omega) h1 h0 (by omega)
  have c : ((k * m : Nat) : Int) ≤ ((2 ^ 27 : Nat) : Int) := Int.ofNat_le.mpr hb
  rw [Int.natCast_mul] at c
  exact Int.le_trans b (by simpa using c)
end DL
/-! The data layer, part n: displays of dicts, get. -/
namespace DL
open PySem L2 PyProof.Rows
def valP {κ : Type} [DecidableEq κ] : List (κ × PD) → κ → Option PD
  | [], _ => none
  | p :: r, k => if p.1 = k then some p.2 else valP r k
def hasP {κ : Type} [DecidableEq κ] (kvs : List (κ × PD)) (k : κ) : Bool := kvs.any fun p => decide (p.1 = k)
def putP {κ : Type} [DecidableEq κ] (kvs : List (κ × PD)) (k : κ) (x : PD) : List (κ × PD) := if hasP kvs k = true then kvs.map (fun p => if p.1 = k then (p.1, x) else p) else kvs ++ [(k, x)]
def mergeP {κ : Type} [DecidableEq κ] (kvs more : List (κ × PD)) : List (κ × PD) := more.foldl (fun acc p => putP acc p.1 p.2) kvs
section
variable {κ : Type} [DecidableEq κ] {K : PySem.W.Frag} {F F' : Hp} {us : List (κ × V)} {kvs : List (κ × PD)} {k : κ} {v : V} {x : PD}
theorem DKv.val (h : DKv K F us kvs) (k : κ) : (valV us k = none ∧ valP kvs k = none) ∨ ∃ v x, valV us k = some v ∧ valP kvs k = some x ∧ Df K F v x := by
  unfold DKv at h
  induction h with
  | nil => exact .inl ⟨rfl, rfl⟩
  | @cons p q ps qs a b ih =>
    by_cases e : p.1 = k
    · exact .inr ⟨p.2, q.2, valV_pos e, if_pos (a.1.symm.trans e), a.2⟩
    · rw [valV_neg e]
      have : valP (q :: qs) k = valP qs k := if_neg fun z => e (a.1.trans z)
      rw [this]; exact ih
theorem DKv.has (h : DKv K F us kvs) (k : κ) : (us.any fun p => decide (p.1 = k)) = hasP kvs k := by
  unfold DKv at h
  unfold hasP
  induction h with
  | nil => rfl
  | @cons p q ps qs a b ih => rw [List.any_cons, List.any_cons, ih, a.1]
theorem DKv.append (h : DKv K F us kvs) {us2 : List (κ × V)} {kvs2 : List (κ × PD)} (g : DKv K F us2 kvs2) : DKv K F (us ++ us2) (kvs ++ kvs2) := by
  unfold DKv at *
  induction h with
  | nil => exact g
  | cons a b ih => exact .cons a ih
theorem DKv.put (h : DKv K F us kvs) (d : Df K F v x) : DKv K F (putK us k v) (putP kvs k x) := by
  unfold putK putP
  rw [h.has k]
  split
  · rename_i hh
    clear hh
    unfold DKv at h ⊢
    induction h with
    | nil => exact .nil
    | @cons p q ps qs a b ih =>
      refine .cons ?_ ih
      dsimp only
      by_cases e : p.1 = k
      · rw [if_pos e, if_pos (a.1.symm.trans e)]; exact ⟨a.1, d⟩
      · rw [if_neg e, if_neg fun z => e (a.1.trans z)]; exact a
  · exact h.append (.cons ⟨rfl, d⟩ .nil)
theorem DKv.length (h : DKv K F us kvs) : us.length = kvs.length := by
  unfold DKv at h
  induction h with
  | nil => rfl
  | cons _ _ ih => rw [List.length_cons, List.length_cons, ih]
end
section
variable {G : Gm} {X : Cx} {K : PySem.W.Frag} {F F' H H' : Hp} {ρ : En} {σ : L2.St} {e e2 e3 o : Expr} {es : List Expr} {pos cpos apos : Pos} {oa ob oc : Op1} {ta tb tc : TD} {t u : TTd} {tf : TF} {v : V} {x : PD}
theorem DKv.merge {us : List (Key × V)} {kvs : List (Key × PD)} : ∀ {m : List (Key × V)} {n : List (Key × PD)}, DKv K F us kvs → DKv K F m n → DKv K F (mergeK us m) (mergeP kvs n) := by
  intro m n h g
  unfold DKv at g
  induction g generalizing us kvs with
  | nil => exact h
  | @cons p q ps qs a b ih =>
    have z : DKv K F (putK us p.1 p.2) (putP kvs q.1 q.2) := by rw [a.1]; exact h.put a.2
    exact ih z
def dVals : List TD → En → (List PD → En → Prop) → Prop
  | [], ρ, Q => Q [] ρ
  | t :: r, ρ, Q => t ρ fun x ρ1 => dVals r ρ1 fun xs ρ2 => Q (x :: xs) ρ2
def liftPr (K : PySem.W.Frag) (ks : List Key) (ts : List TD) (σ : L2.St) (H : Hp) (Q : List (V × V) → Hp → Prop) : Prop := ∃ G ρ F Q', Rel K G ρ F σ H ∧ dVals ts ρ Q' ∧
  ∀ xs ρ' vs H' F', Q' xs ρ' → Rel K G ρ' F' σ H' → Same F F' → DfA K F' vs xs → vs.length = ks.length → Q ((ks.zip vs).map fun p => (kV p.1, p.2)) H'
structure LPr (X : Cx) (pos : Pos) (keys : List (Option Expr)) (values : List Expr) (ks : List Key) (ts : List TD) : Prop where
  ex : ∃ trs, PPs X pos keys values trs ∧ ∀ σ H Q, liftPr X.K ks ts σ H Q → tPairs trs σ H Q
theorem LPr.nil : LPr X pos [] [] [] [] := ⟨[], pps_nil, fun σ H Q ⟨G, ρ, F, Q', R, q, c⟩ => c [] ρ [] H F q R (Same.refl _) .nil rfl⟩
theorem LPr.cons {ke : Expr} {k : Key} {tk : L2.TE} {ks : List (Option Expr)} {vs : List Expr} {kr : List Key} {ts : List TD} (hk : PE X ke tk) (hk2 : ∀ σ H Q, Q (kV k) H → tk σ H Q) (h : LD X e ta) (r : LPr X pos ks vs kr ts) : LPr X pos (some ke :: ks) (e :: vs) (k :: kr) (ta :: ts) := by
  obtain ⟨trs, p, w⟩ := r.ex
  refine ⟨_, pps_cons hk h.p p, fun σ H Q ⟨G, ρ, F, Q', R, q, c⟩ => hk2 _ _ _ ⟨G, ρ, F, _, R, q, fun x ρ1 v H1 F1 h1 R1 s1 d => w _ _ _ ⟨G, ρ1, F1, _, R1, h1, fun xs ρ2 us H2 F2 h2 R2 s2 d2 hl => ?_⟩⟩⟩
  exact c (x :: xs) ρ2 (v :: us) H2 F2 h2 R2 (s1.trans s2) (.cons (d.mono s2) d2) (by rw [List.length_cons, List.length_cons, hl])
theorem LPr.cs {x : Str} {j : Nat} {p : Pos} {ks : List (Option Expr)} {vs : List Expr} {kr : List Key} {ts : List TD} (h : LD X e ta) (r : LPr X pos ks vs kr ts) : LPr X pos (some (.Constant (.str x) j p) :: ks) (e :: vs) (.inr x :: kr) (ta :: ts) :=
  LPr.cons pe_str (fun _ _ _ q => q) h r
theorem LPr.ci {x : Int} {j : Nat} {p : Pos} {ks : List (Option Expr)} {vs : List Expr} {kr : List Key} {ts : List TD} (h : LD X e ta) (r : LPr X pos ks vs kr ts) : LPr X pos (some (.Constant (.int x) j p) :: ks) (e :: vs) (.inl x :: kr) (ta :: ts) :=
  LPr.cons pe_int (fun _ _ _ q => q) h r
theorem zip_kv {ks : List Key} {vs : List V} {xs : List PD} (d : DfA K F vs xs) : DKv K F (ks.zip vs) (ks.zip xs) := by
  induction ks generalizing vs xs with
  | nil => exact .nil
  | cons k r ih =>
    cases d with
    | nil => exact .nil
    | cons a b => exact .cons ⟨rfl, a⟩ (ih b)
/-- {k: e, ..}: an own dict -/
def fDict (ks : List Key) (ts : List TD) : TF := fun ρ Q => dVals ts ρ fun xs ρ1 => Q (.dk none (mergeP [] (ks.zip xs))) ρ1
theorem LF.dict {keys : List (Option Expr)} {values : List Expr} {ks : List Key} {ts : List TD} (h : LPr X pos keys values ks ts) (hall : keys.all (·.isSome) = true) (hl : keys.length = values.length) (h0 : keys ≠ []) (h15 : keys.length ≤ 15) (h15' : ks.length ≤ 15) :
    LF X (.Dict keys values pos) (fDict ks ts) := by
  obtain ⟨trs, p, w⟩ := h.ex
  refine ⟨peImp (pe_disp p hall hl h0 h15) fun σ H Q ⟨G, ρ, F, Q', R, q, c⟩ p hp => w _ _ _ ?_⟩
  have R1 := R.grow (Grow.owned R.fh hp (.dK []))
  have h00 := R.h0 hp
  have nd : ∀ (j : Nat) (m : Lc), ρ[j]? = some (some m) → m.own = true → σ[j]? ≠ some (some (.ref p)) := fun j m e hm z => by
    obtain ⟨a, e1, nf, ow, ob, eo, _⟩ := R.at_ e hm
    rw [z] at e1
    have : p = a := by simpa using e1
    subst this
    rw [hp] at eo; cases eo
  have dio : p ∉ G.io := fun z => (R.ih p z).2 h00
  have Rp := R1.pin (R.fh.free hp) upd_same h00 nd
  refine ⟨_, ρ, F, _, Rp, q, fun xs ρ1 vs H1 F1 h1 R2 s1 d hn => ?_⟩
  obtain ⟨R3, f3, h3, n3⟩ := R2.unpin h00 (R.ff.free (R.fh.free hp)) dio
  refine ⟨h3, ks.zip vs, rfl, by rw [List.length_zip]; omega, ?_⟩
  have ok : DKv X.K F1 (mergeK [] (ks.zip vs)) (mergeP [] (ks.zip xs)) := DKv.merge .nil (zip_kv d)
  exact c _ _ _ _ _ h1 (R3.side f3 h00 n3) s1 ⟨p, rfl, rfl, ⟨f3, h00, _, upd_same, ok⟩, n3⟩
theorem LF.dict0 : LF X (.Dict [] [] pos) (fun ρ Q => Q (.dk none []) ρ) := ⟨peImp pe_dnewK fun σ H Q ⟨G, ρ, F, Q', R, q, c⟩ p hp => by
  obtain ⟨R2, k⟩ := fresh_ok (l := .dk none []) (o := .dK []) R hp .nil rfl
  exact c _ _ _ _ _ q R2 (Same.refl _) k⟩
def keyP : PD → Option Key
  | .int i => some (.inl i)
  | .str s => some (.inr s)
  | _ => none
theorem keyP_v {y : PD} {k : Key} (h : keyP y = some k) {v : V} (d : Dr K F H v y) : v = kV k := by
  cases y <;> simp [keyP] at h
  · subst h; exact d.int
  · subst h; exact d.str
/-- {..}.get(k, z) -/
def dGetF (t : TF) (oa ob : Op1) : TD := fun ρ Q => t ρ fun l ρ1 => match l with
  | .dk none kvs => oa.run ρ1 fun a ρ2 => ob.run ρ2 fun b ρ3 => res1 ρ3 a fun y => resF ρ3 b fun z => ∃ k, keyP y = some k ∧ Q ((valP kvs k).getD z) ρ3
  | _ => False
theorem LD.getF (hu : X.A.units + 1 < cLine) (h : LF X o tf) (ha : LO X e oa) (hb : LO X e2 ob) (m : M2 X o "get" apos e e2 cpos) : LD X (.Call (.Attribute o "get" apos) [e, e2] [] cpos) (dGetF tf oa ob) :=
  ⟨peImp (pe_dget2 hu h.p ha.p hb.p m) fun σ H Q ⟨G, ρ, F, Q', R, q, c⟩ => ⟨G, ρ, F, _, R, q, fun l ρ1 v H1 F1 h1 R1 s1 r1 => by
    split at h1
    · rename_i kvs
      obtain ⟨G', Rp, back⟩ := r1.keep R1
      obtain ⟨a, ev, _, ⟨nf, ow, ob', eo, ok⟩, _⟩ := r1
      cases ob' <;> first | exact False.elim ok | skip
      rename_i us
      refine ⟨a, ev, .inl ⟨us, .inl eo⟩, G', ρ1, F1, _, Rp, h1, fun x ρ2 w H2 F2 h2 R2 s2 ax => ⟨G', ρ2, F2, _, R2, h2, fun y ρ3 w2 H3 F3 h3 R3 s3 ay => ?_⟩⟩
      obtain ⟨R4, r4, _⟩ := back R3 (s2.trans s3)
      obtain ⟨y', h4, dx⟩ := res1_dr R4 (ax.mono s3) h3
      obtain ⟨z', h5, dz⟩ := resF_df R4 ay h4
      obtain ⟨k, hk, h6⟩ := h5
      obtain ⟨b, ev2, _, ⟨nf2, ow2, ob2, eo2, ok2⟩, _⟩ := r4
      have eab : a = b := by rw [ev] at ev2; exact V.ref.inj ev2
      subst eab
      cases ob2 <;> first | exact False.elim ok2 | skip
      rename_i us2
      have ok2 : DKv X.K F3 us2 kvs := ok2
      refine ⟨_, .inl ⟨us2, k, .inl eo2, keyP_v hk dx, rfl⟩, ?_⟩
      have s123 := s1.trans (s2.trans s3)
      rcases ok2.val k with ⟨e1, e2⟩ | ⟨v', x', e1, e2, d'⟩
      · rw [e1]; rw [e2] at h6
        exact c _ _ _ _ _ h6 R4 s123 dz
      · rw [e1]; rw [e2] at h6
        exact c _ _ _ _ _ h6 R4 s123 d'
    · exact False.elim h1⟩⟩
end
end DL
/-! The data layer, part o: list(range), defs that are not called. -/
namespace DL
open PySem L2 PyProof.Rows
section
variable {G : Gm} {X : Cx} {K : PySem.W.Frag} {F F' H H' : Hp} {ρ : En} {σ : L2.St} {e e2 e3 o : Expr} {es : List Expr} {pos p2 p p3 : Pos} {oa ob oc : Op1} {ta tb tc : TD} {t u : TTd} {tf : TF} {v : V} {x : PD}
theorem rgV_df {a b : Int} : DfA K F (rgV a b) (rngD a (b - a).toNat) := by
  unfold rgV rngD
  generalize List.range (b - a).toNat = l
  induction l with
  | nil => exact .nil
  | cons i r ih => exact .cons (.int _) ih
def fLR1 (oa : Op1) : TF := fun ρ Q => oa.run ρ fun a ρ1 => res1 ρ1 a fun y => match y with
  | .int n => RgOk 0 n ∧ Q (.ls none (rngD 0 (n - 0).toNat)) ρ1
  | _ => False
theorem LF.lr1 (hc : X.calm = true) (hg : Gl X "list") (hm : X.mg "list" = none) (hg2 : Gl X "range") (hm2 : X.mg "range" = none) (ha : LO X e oa)
    (na : starEach [.Call (.Name "range" p) [e] [] p2] X.env = (false, eval (.Call (.Name "range" p) [e] [] p2) X.env) :: starEach [] X.env := by rfl) (nb : starEach [e] X.env = (false, eval e X.env) :: starEach [] X.env := by rfl) :
    LF X (.Call (.Name "list" p3) [.Call (.Name "range" p) [e] [] p2] [] pos) (fLR1 oa) :=
  ⟨peImp (pe_listRg hc hg hm (prg_1 hg2 hm2 ha.p nb) na) fun σ H Q ⟨G, ρ, F, Q', R, q, c⟩ => ⟨G, ρ, F, _, R, q, fun a ρ1 v H1 F1 h1 R1 s1 av => by
    obtain ⟨y, h2, d⟩ := res1_dr R1 av h1
    split at h2
    · rename_i n
      rw [d.int]
      refine ⟨n, rfl, h2.1, fun q hq => ?_⟩
      obtain ⟨R2, k⟩ := fresh_ok (l := .ls none (rngD 0 (n - 0).toNat)) (o := .lst (rgV 0 n)) R1 hq rgV_df rfl
      exact c _ _ _ _ _ h2.2 R2 s1 k
    · exact False.elim h2⟩⟩
def fLR2 (oa ob : Op1) : TF := fun ρ Q => oa.run ρ fun a ρ1 => ob.run ρ1 fun b ρ2 => res1 ρ2 a fun y => res1 ρ2 b fun z => match y, z with
  | .int m, .int n => RgOk m n ∧ Q (.ls none (rngD m (n - m).toNat)) ρ2
  | _, _ => False
theorem LF.lr2 (hc : X.calm = true) (hg : Gl X "list") (hm : X.mg "list" = none) (hg2 : Gl X "range") (hm2 : X.mg "range" = none) (ha : LO X e oa) (hb : LO X e2 ob)
    (na : starEach [.Call (.Name "range" p) [e, e2] [] p2] X.env = (false, eval (.Call (.Name "range" p) [e, e2] [] p2) X.env) :: starEach [] X.env := by rfl) (nb : starEach [e, e2] X.env = (false, eval e X.env) :: starEach [e2] X.env := by rfl)
    (nc : starEach [e2] X.env = (false, eval e2 X.env) :: starEach [] X.env := by rfl) (nd : (backTo p2 (starEach [e2] X.env)).any (·.1) = false := by rfl) :
    LF X (.Call (.Name "list" p3) [.Call (.Name "range" p) [e, e2] [] p2] [] pos) (fLR2 oa ob) :=
  ⟨peImp (pe_listRg hc hg hm (prg_2 hg2 hm2 ha.p hb.p nb nc nd) na) fun σ H Q ⟨G, ρ, F, Q', R, q, c⟩ => ⟨G, ρ, F, _, R, q, fun a ρ1 v H1 F1 h1 R1 s1 av => ⟨G, ρ1, F1, _, R1, h1, fun b ρ2 v2 H2 F2 h2 R2 s2 bv => by
    obtain ⟨y, h3, d⟩ := res1_dr R2 (av.mono s2) h2
    obtain ⟨z, h4, d2⟩ := res1_dr R2 bv h3
    split at h4
    · rename_i m n
      rw [d.int, d2.int]
      refine ⟨m, n, rfl, rfl, h4.1, fun q hq => ?_⟩
      obtain ⟨R3, k⟩ := fresh_ok (l := .ls none (rngD m (n - m).toNat)) (o := .lst (rgV m n)) R2 hq rgV_df rfl
      exact c _ _ _ _ _ h4.2 R3 (s1.trans s2) k
    · exact False.elim h4⟩⟩⟩
end
section
variable {P : Program} {w : World} {K : PySem.W.Frag} {mg : Str → Option Value} {base : Heap} {k : Nat} {n : Str} {X : Cx} {p pos : Pos} {S : FSpec}
/-- a call without arguments -/
theorem LF.cal0 (C : Cal X.prog X.w X.K X.mg X.base k n [] S) (hr : Room k X.A) (hgd : X.A.guards = some []) (hg : Gl X n) (hdb : (n == ("__debug__" : Str)) = false := by decide) : LF X (.Call (.Name n p) [] [] pos) (fCall S aNil) := by
  obtain ⟨f, fd, h1, h2, h3, h4⟩ := C.ex
  have pe : PE X (.Call (.Name n p) [] [] pos) (tCall (liftC X.K S) [] E0 tNil) := ⟨fun pins s σ H Q I h =>
    wpAny_Call_Name_kw (ld_glob I hg h2 (PySem.W.callWith_K0 I.kIn h3 (runG (us := []) h1 hr hgd h4 .nil pass0 I .nil h)) hdb)⟩
  refine ⟨peImp pe fun σ H Q h => ?_⟩
  obtain ⟨G, ρ, F, Q', R, q, c⟩ := tCall_of (m := 0) h
  exact c _ _ _ H F q rfl R (Same.refl _) .nil
end
theorem pO {X : Cx} {e : Expr} {t : Op1} (h : LO X e t) : PE X e (liftO X.K t) := h.p
theorem pD {X : Cx} {e : Expr} {t : TD} (h : LD X e t) : PE X e (liftD X.K t) := h.p
theorem pT {X : Cx} {e : Expr} {t : TTd} (h : LT X e t) : PT X e (liftT X.K t) := h.p
/-- nothing is asked of a def of which nothing is promised -/
theorem Cal.vac {P : Program} {w : World} {K : PySem.W.Frag} {mg : Str → Option Value} {base : Heap} {k : Nat} {n : Str} {st : Stmt} {ps : List Str} {S : FSpec} (D : Dn K mg n st ps) (no : ∀ args Q, ¬ S.sp args Q) : Cal P w K mg base k n ps S := by
  obtain ⟨f, fd, h1, h2, h3⟩ := D.ex
  have no' : ∀ vs H Q E, ¬ liftC K S vs H Q E := fun vs H Q E h => by
    obtain ⟨args, F, ios, Qd, _, _, _, _, _, h, _⟩ := h
    exact no _ _ h
  exact ⟨f, fd, ⟨fun vs H Q E h => absurd h (no' vs H Q E), fun A outer s H args us vs Q E _ _ _ _ _ h => absurd h (no' vs H Q E)⟩, h2, h1.kp, h3⟩
end DL
namespace DL
open PySem L2 PyProof.Rows
/-! the deck: what a draw promises -/
/-- a deck from which b more draws may be made -/
def Dk (b : Nat) (dk : List PD) : Prop := ∃ (ns : List Int) (a e c : Int), dk = [.list (ns.map .int), .int a, .int e, .int c] ∧ 0 ≤ c ∧ c + b ≤ 2 ^ 40
def S_draw : FSpec := ⟨fun args Q => ∃ (b : Nat) (dk : List PD) (many : Int), args = [.ls (some 0) dk, .d (.int many)] ∧ Dk (b + 1) dk ∧ (0 < many ∧ many.natAbs.log2 < 8000) ∧ ∀ r dk', 0 ≤ r → r < many → Dk b dk' → Q (.d (.int r)) [.ls (some 0) dk']⟩
theorem Dk.mono {b c : Nat} {dk : List PD} (h : Dk b dk) (hc : c ≤ b) : Dk c dk := by
  obtain ⟨ns, a, e, d, rfl, h0, h1⟩ := h
  exact ⟨ns, a, e, d, rfl, h0, by omega⟩
abbrev N_law_draw_a51a : List Str := ["deck", "many", "found", "cell", "mixed"]
def ir_law_draw_a51a : TSt :=
  (sSeq (sSetL 0 (.e (dC (.int 3))) (dBin bAdd (.e (dBin bIx (.s 0) (.e (dC (.int 3))))) (.e (dC (.int 1)))))
    (sSeq (sIf (tVal (dBin cGt (.e (dBin bIx (.s 0) (.e (dC (.int 2))))) (.e (dC (.int 0))))) (sSeq (sAsg 2 (fD (dBin bMod (.e (dBi bInt (aCons (.e (dBin bIx (.s 0) (.e (dC (.int 2))))) aNil))) (.s 1))))
    (sSeq (sSetL 0 (.e (dC (.int 2))) (dBin bFdiv (.e (dBin bIx (.s 0) (.e (dC (.int 2))))) (.s 1)))
    (sRetV 2))) sNext)
    (sSeq (sAsg 3 (fD (dC (.int 47))))
    (sSeq (sIf (tVal (dBin cNe (.e (dBin bIx (.s 0) (.e (dC (.int 0))))) (.e (dFz (fLst aNil))))) (sAsg 3 (fD (dBin bIx (.e (dBin bIx (.s 0) (.e (dC (.int 0))))) (.e (dBin bMod (.e (dBi bInt (aCons (.e (dBin bIx (.s 0) (.e (dC (.int 1))))) aNil))) (.e (dBi bLen (aCons (.e (dBin bIx (.s 0) (.e (dC (.int 0))))) aNil)))))))) sNext)
    (sSeq (sSetL 0 (.e (dC (.int 1))) (dBin bAdd (.e (dBin bIx (.s 0) (.e (dC (.int 1))))) (.e (dC (.int 1)))))
    (sSeq (sIf (tAndD (tVal (dBin cGe (.e (dBi bAbs (aCons (.s 3) aNil))) (.e (dBin bPow (.e (dC (.int 10))) (.e (dC (.int 18))))))) (tVal (dBin cLe (.e (dBin bIx (.s 0) (.e (dC (.int 1))))) (.e (dBi bLen (aCons (.e (dBin bIx (.s 0) (.e (dC (.int 0))))) aNil)))))) (sSeq (sSetL 0 (.e (dC (.int 2))) (dBin bFdiv (.e (dBi bAbs (aCons (.s 3) aNil))) (.s 1)))
    (sRet (fD (dBin bMod (.e (dBi bInt (aCons (.e (dBi bAbs (aCons (.s 3) aNil))) aNil))) (.s 1))))) sNext)
    (sSeq (sAsg 4 (fD (dBin bMod (.e (dBin bPow (.e (dBi bInt (aCons (.e (dBin bAdd (.e (dBin bMod (.e (dBi bInt (aCons (.s 3) aNil))) (.e (dC (.int 2147483587))))) (.e (dBin bMulI (.e (dC (.int 67280423))) (.e (dBin bIx (.s 0) (.e (dC (.int 3))))))))) aNil))) (.e (dC (.int 5))))) (.e (dC (.int 2147483629))))))
    (sSeq (sAsg 4 (fD (dBin bMod (.e (dBin bPow (.e (dBi bInt (aCons (.e (dBin bAdd (.e (dBin bMulI (.s 4) (.e (dBin bAdd (.e (dBin bMulI (.e (dC (.int 2))) (.e (dBin bIx (.s 0) (.e (dC (.int 3))))))) (.e (dC (.int 3))))))) (.e (dC (.int 7919))))) aNil))) (.e (dC (.int 3))))) (.e (dC (.int 2147483563))))))
    (sRet (fD (dBin bMod (.e (dBin bFdiv (.s 4) (.e (dC (.int 32))))) (.s 1))))))))))))
theorem sp_draw : ∀ args Q, S_draw.sp args Q → ir_law_draw_a51a (endsOf args Q) (rho0 N_law_draw_a51a args) := by
  rintro args Q ⟨b, dk, many, rfl, ⟨ns, a, e, c, rfl, h0, h1⟩, ⟨m0, m1⟩, q⟩
  have L : (ns.map PyData.int).length = ns.length := List.length_map _
  have fin : ∀ (dk' : List PD) (r : Int), Dk b dk' → Q (.d (.int (r % many))) [.ls (some 0) dk'] := fun dk' r z => q _ _ (Int.emod_nonneg _ (by omega)) (Int.emod_lt_of_pos _ m0) z
  have dko : ∀ a' e', Dk b [.list (ns.map .int), .int a', .int e', .int (c + 1)] := fun a' e' => ⟨ns, a', e', _, rfl, by omega, by omega⟩
  have nn : ∀ x : Int, (x % 2147483587 + 67280423 * (c + 1)).natAbs < 2 ^ 70 := fun x => by
    have a1 := Int.emod_lt_of_pos x (b := 2147483587) (by decide)
    have a2 := Int.emod_nonneg x (b := 2147483587) (by decide)
    omega
  have nm : ∀ x : Int, (x % 2147483629 * (2 * (c + 1) + 3) + 7919).natAbs < 2 ^ 80 := fun x => by
    have a1 := Int.emod_lt_of_pos x (b := 2147483629) (by decide)
    have a2 := Int.emod_nonneg x (b := 2147483629) (by decide)
    have a3 : x % 2147483629 * (2 * (c + 1) + 3) ≤ 2147483629 * (2 ^ 42) := Int.mul_le_mul (by omega) (by omega) (by omega) (by decide)
    have a4 : 0 ≤ x % 2147483629 * (2 * (c + 1) + 3) := Int.mul_nonneg a2 (by omega)
    omega
  have ab : ∀ x : Int, 0 ≤ (if x < 0 then -x else x) := fun x => by split <;> omega
  have tt : ∀ {x : Int}, x < 2147483629 → 0 ≤ x → x.natAbs < 2 ^ 32 := fun h1 h2 => by omega
  -- deck[3] = deck[3] + 1
  refine ⟨_, rfl, 3, rfl, ?_⟩
  -- deck[2] > 0
  refine ⟨_, rfl, fun g => ?_, fun g => ?_⟩
  · refine ⟨_, rfl, m0, _, rfl, ⟨m0, by omega⟩, 2, rfl, ?_⟩
    exact fin _ _ (dko _ _)
  refine ⟨_, rfl, (Shp.list (n := 0) (Shp.ints ns)).shp, ⟨rfl, rfl⟩, fun g2 => ?_, fun g2 => ?_⟩
  · have hl : 0 < ns.length := by
      cases ns with
      | nil => simp [eqv_nil, Lc.pd] at g2
      | cons x r => simp
    obtain ⟨cell, e1, e2⟩ := atI_some (xs := ns.map PyData.int) (i := a % ((ns.map PyData.int).length : Int)) (Int.emod_nonneg _ (by omega)) (Int.emod_lt_of_pos _ (by omega))
    rw [List.getElem?_map] at e2
    obtain ⟨cell, e3, rfl⟩ := Option.map_eq_some_iff.mp e2
    refine ⟨_, rfl, _, rfl, _, rfl, by rw [L]; omega, _, e1, _, rfl, 1, rfl, ?_⟩
    refine ⟨powOk (k := 4) (m := 18) (by decide) (by decide) (by decide), fun g3 => ⟨_, rfl, _, rfl, fun g4 => ?_, fun g4 => ?_⟩, fun g3 => ⟨nofun, fun g4 => ?_⟩⟩
    · exact ⟨⟨m0, by omega⟩, 2, rfl, m0, fin _ _ (dko _ _)⟩
    all_goals
      refine ⟨by decide, _, rfl, mulOk 30 50 (by decide) (by omega), powOk (k := 70) (m := 5) (nn _) (by decide) (by decide), by decide, _, rfl, mulOk 2 50 (by decide) (by omega), mulOk 32 50 ?_ (by omega), powOk (k := 80) (m := 3) (nm _) (by decide) (by decide), by decide, ⟨by decide, by decide⟩, m0, fin _ _ (dko _ _)⟩
      have a1 := Int.emod_lt_of_pos ((cell % 2147483587 + 67280423 * (c + 1)) ^ 5) (b := 2147483629) (by decide)
      have a2 := Int.emod_nonneg ((cell % 2147483587 + 67280423 * (c + 1)) ^ 5) (b := 2147483629) (by decide)
      exact tt a1 a2
  · refine ⟨_, rfl, 1, rfl, ?_⟩
    refine ⟨powOk (k := 4) (m := 18) (by decide) (by decide) (by decide), fun g3 => ⟨_, rfl, _, rfl, fun g4 => ?_, fun g4 => ?_⟩, fun g3 => ⟨nofun, fun g4 => ?_⟩⟩
    · exact ⟨⟨m0, by omega⟩, 2, rfl, m0, fin _ _ (dko _ _)⟩
    all_goals
      refine ⟨by decide, _, rfl, mulOk 30 50 (by decide) (by omega), powOk (k := 70) (m := 5) (nn _) (by decide) (by decide), by decide, _, rfl, mulOk 2 50 (by decide) (by omega), mulOk 32 50 ?_ (by omega), powOk (k := 80) (m := 3) (nm _) (by decide) (by decide), by decide, ⟨by decide, by decide⟩, m0, fin _ _ (dko _ _)⟩
      have a1 := Int.emod_lt_of_pos ((47 % 2147483587 + 67280423 * (c + 1)) ^ 5) (b := 2147483629) (by decide)
      have a2 := Int.emod_nonneg ((47 % 2147483587 + 67280423 * (c + 1)) ^ 5) (b := 2147483629) (by decide)
      exact tt a1 a2

/-- one of the items -/
def S_one : FSpec := ⟨fun args Q => ∃ (b : Nat) (dk xs : List PD), args = [.ls (some 0) dk, .d (.list xs)] ∧ Dk (b + 1) dk ∧ (0 < xs.length ∧ xs.length < 2 ^ 60) ∧ ∀ x dk', x ∈ xs → Dk b dk' → Q (.d x) [.ls (some 0) dk']⟩
abbrev N_law_one_90da : List Str := ["deck", "items"]
def ir_law_one_90da (S_law_draw_a51a : FSpec) : TSt :=
  (sRet (fD (dBin bIx (.s 1) (.e (dFz (fCall S_law_draw_a51a (aCons (.s 0) (aCons (.e (dBi bLen (aCons (.s 1) aNil))) aNil))))))))
theorem sp_one : ∀ args Q, S_one.sp args Q → ir_law_one_90da S_draw (endsOf args Q) (rho0 N_law_one_90da args) := by
  rintro args Q ⟨b, dk, xs, rfl, h1, ⟨h2, h3⟩, q⟩
  have hl : ((xs.length : Nat) : Int).natAbs.log2 < 8000 := by
    have := (Nat.log2_lt (n := xs.length) (k := 60) (by omega)).mpr h3
    rw [Int.natAbs_natCast]; omega
  refine ⟨rfl, b, dk, (xs.length : Nat), rfl, h1, ⟨by omega, hl⟩, fun r dk' h4 h5 h6 => ?_⟩
  obtain ⟨x, e1, e2⟩ := atI_some (xs := xs) h4 h5
  exact ⟨x, e1, q x dk' (List.mem_of_getElem? e2) h6⟩
def S_deck : FSpec := ⟨fun args Q => ∃ ns : List Int, args = [.sc (ns.map .int)] ∧ ns.length ≤ 63 ∧ ∀ dk, Dk (2 ^ 40) dk → Q (.ls none dk) []⟩
abbrev N_law_deck_91e6 : List Str := ["script"]
def ir_law_deck_91e6 : TSt :=
  (sRet (fLst (aCons (.e (dFz (fList (aCons (.e (dSlS 0 pNone (pSome (.e (dC (.int 63)))))) aNil)))) (aCons (.e (dC (.int 0))) (aCons (.e (dC (.int 0))) (aCons (.e (dC (.int 0))) aNil))))))
theorem cut_ints (ns : List Int) (a b : Option Int) : ∃ ms : List Int, cutD (ns.map PyData.int) a b = ms.map PyData.int := by
  unfold cutD
  rw [← List.map_drop, ← List.map_take]
  exact ⟨_, rfl⟩
theorem sp_deck : ∀ args Q, S_deck.sp args Q → ir_law_deck_91e6 (endsOf args Q) (rho0 N_law_deck_91e6 args) := by
  rintro args Q ⟨ns, rfl, h1, q⟩
  obtain ⟨ms, e⟩ := cut_ints ns none (some 63)
  refine .inl (q _ ⟨ms, 0, 0, 0, ?_, by decide, by decide⟩)
  rw [← e]; rfl
end DL
namespace DL
open PySem L2 PyProof.Rows
/-! formulas -/
inductive FT where
  | int (i : Int)
  | x
  | y
  | add (a b : FT)
  | sub (a b : FT)
  | mul (a b : FT)
  | pow (a : FT) (n : Nat)
def FT.pd : FT → PD
  | int i => .int i
  | x => .str "x"
  | y => .str "y"
  | add a b => .tuple [.str "add", a.pd, b.pd]
  | sub a b => .tuple [.str "sub", a.pd, b.pd]
  | mul a b => .tuple [.str "mul", a.pd, b.pd]
  | pow a n => .tuple [.str "pow", a.pd, .int n]
def FT.val (u v : Int) : FT → Int
  | int i => i
  | x => u
  | y => v
  | add a b => a.val u v + b.val u v
  | sub a b => a.val u v - b.val u v
  | mul a b => a.val u v * b.val u v
  | pow a n => a.val u v ^ n
def FT.lev : FT → Nat
  | add a b | sub a b | mul a b => max a.lev b.lev + 1
  | pow a _ => a.lev + 1
  | _ => 1
/-- a bound of the degree -/
def FT.e : FT → Nat
  | add a b | sub a b => max a.e b.e
  | mul a b => a.e + b.e
  | pow a n => a.e * max 1 n
  | _ => 1
/-- the integers are of less than m bits -/
def FT.le (m : Nat) : FT → Prop
  | int i => i.natAbs < 2 ^ m
  | add a b | sub a b | mul a b => a.le m ∧ b.le m
  | pow a _ => a.le m
  | _ => True
/-- y stands in it -/
def FT.hasY : FT → Bool
  | y => true
  | add a b | sub a b | mul a b => a.hasY || b.hasY
  | pow a _ => a.hasY
  | _ => false
theorem FT.e_pos : ∀ f : FT, 1 ≤ f.e
  | int _ => Nat.le_refl _
  | x => Nat.le_refl _
  | y => Nat.le_refl _
  | add a b => Nat.le_trans a.e_pos (Nat.le_max_left _ _)
  | sub a b => Nat.le_trans a.e_pos (Nat.le_max_left _ _)
  | mul a b => Nat.le_trans a.e_pos (Nat.le_add_right _ _)
  | pow a n => Nat.mul_pos a.e_pos (by omega)
theorem FT.lev_pos : ∀ f : FT, 1 ≤ f.lev
  | int _ => Nat.le_refl _
  | x => Nat.le_refl _
  | y => Nat.le_refl _
  | add a b => Nat.succ_le_succ (Nat.zero_le _)
  | sub a b => Nat.succ_le_succ (Nat.zero_le _)
  | mul a b => Nat.succ_le_succ (Nat.zero_le _)
  | pow a n => Nat.succ_le_succ (Nat.zero_le _)
theorem two_add {i j : Int} {a b c : Nat} (h1 : i.natAbs < 2 ^ a) (h2 : j.natAbs < 2 ^ b) (ha : a + 1 ≤ c) (hb : b + 1 ≤ c) : (i + j).natAbs < 2 ^ c ∧ (i - j).natAbs < 2 ^ c := by
  obtain ⟨d, rfl⟩ : ∃ d, c = d + 1 := ⟨c - 1, by omega⟩
  have x1 : i.natAbs < 2 ^ d := Nat.lt_of_lt_of_le h1 (Nat.pow_le_pow_right (by decide) (by omega))
  have x2 : j.natAbs < 2 ^ d := Nat.lt_of_lt_of_le h2 (Nat.pow_le_pow_right (by decide) (by omega))
  rw [Nat.pow_succ]
  omega
theorem two_mul {i j : Int} {a b c : Nat} (h1 : i.natAbs < 2 ^ a) (h2 : j.natAbs < 2 ^ b) (h : a + b ≤ c) : (i * j).natAbs < 2 ^ c := by
  rw [Int.natAbs_mul]
  refine Nat.lt_of_lt_of_le ?_ (Nat.pow_le_pow_right (by decide) h)
  rw [Nat.pow_add]
  exact Nat.mul_lt_mul'' h1 h2
theorem two_pow {i : Int} {a : Nat} (h1 : i.natAbs < 2 ^ a) : ∀ {n c : Nat}, a * max 1 n ≤ c → 0 < c → (i ^ n).natAbs < 2 ^ c
  | 0, c, _, h => by
    rw [Int.pow_zero]
    exact Nat.one_lt_two_pow (by omega)
  | 1, c, h, _ => by
    rw [Int.pow_succ, Int.pow_zero, Int.one_mul]
    exact Nat.lt_of_lt_of_le h1 (Nat.pow_le_pow_right (by decide) (by simpa using h))
  | n + 2, c, h, hc => by
    by_cases ha : a = 0
    · subst ha
      have : i = 0 := by
        have : i.natAbs < 1 := by simpa using h1
        omega
      subst this
      rw [Int.zero_pow (by omega)]
      exact Nat.pos_of_ne_zero (by simp)
    · have z : a * max 1 (n + 2) = a * (n + 1) + a := by
        rw [Nat.max_eq_right (by omega), Nat.mul_add, Nat.mul_add]; omega
      rw [z] at h
      rw [Int.pow_succ]
      refine two_mul (two_pow h1 (n := n + 1) (c := a * (n + 1)) (by rw [Nat.max_eq_right (by omega)]; exact Nat.le_refl _) (Nat.mul_pos (by omega) (by omega))) h1 h
/-- how great a formula's worth is -/
theorem FT.small {m : Nat} {u v : Int} (hu : u.natAbs < 2 ^ m) (hv : v.natAbs < 2 ^ m) : ∀ {f : FT}, f.le m → (f.val u v).natAbs < 2 ^ ((f.lev + m) * f.e)
  | int i, h => Nat.lt_of_lt_of_le h (Nat.pow_le_pow_right (by decide) (by simp only [lev, e]; omega))
  | x, _ => Nat.lt_of_lt_of_le hu (Nat.pow_le_pow_right (by decide) (by simp only [lev, e]; omega))
  | y, _ => Nat.lt_of_lt_of_le hv (Nat.pow_le_pow_right (by decide) (by simp only [lev, e]; omega))
  | add a b, h => by
    refine (two_add (small hu hv h.1) (small hu hv h.2) ?_ ?_).1
    · exact sumLe (Nat.le_max_left _ _) (Nat.le_max_left _ _) a.e_pos
    · exact sumLe (Nat.le_max_right _ _) (Nat.le_max_right _ _) b.e_pos
  | sub a b, h => by
    refine (two_add (small hu hv h.1) (small hu hv h.2) ?_ ?_).2
    · exact sumLe (Nat.le_max_left _ _) (Nat.le_max_left _ _) a.e_pos
    · exact sumLe (Nat.le_max_right _ _) (Nat.le_max_right _ _) b.e_pos
  | mul a b, h => by
    refine two_mul (small hu hv h.1) (small hu hv h.2) ?_
    have h1 := Nat.mul_le_mul_right a.e (show a.lev + m ≤ max a.lev b.lev + 1 + m by omega)
    have h2 := Nat.mul_le_mul_right b.e (show b.lev + m ≤ max a.lev b.lev + 1 + m by omega)
    simp only [lev, e, Nat.mul_add]
    omega
  | pow a n, h => by
    refine two_pow (small hu hv (f := a) h) ?_ (Nat.mul_pos (by simp only [lev]; omega) (pow a n).e_pos)
    simp only [lev, e]
    rw [← Nat.mul_assoc]
    exact Nat.mul_le_mul_right _ (Nat.mul_le_mul_right _ (by omega))
where
  sumLe {l l' p p' : Nat} (h1 : l ≤ l') (h2 : p ≤ p') (h3 : 1 ≤ p) : (l + m) * p + 1 ≤ (l' + 1 + m) * p' := by
    have a1 : (l + m) * p ≤ (l' + m) * p' := Nat.mul_le_mul (by omega) h2
    have a2 : (l' + 1 + m) * p' = (l' + m) * p' + p' := by rw [show l' + 1 + m = (l' + m) + 1 by omega, Nat.add_mul, Nat.one_mul]
    omega
/-- the worth is of less than 100000 bits -/
def FT.ok (m : Nat) (f : FT) : Prop := f.le m ∧ (f.lev + m) * f.e ≤ 100000
theorem FT.ok.sub1 {m : Nat} {a b : FT} (h : ((a.add b).ok m ∨ (a.sub b).ok m) ∨ (a.mul b).ok m) : a.ok m ∧ b.ok m := by
  have key : a.le m ∧ b.le m ∧ ∃ E, a.e ≤ E ∧ b.e ≤ E ∧ (max a.lev b.lev + 1 + m) * E ≤ 100000 := by
    rcases h with (⟨h1, h2⟩ | ⟨h1, h2⟩) | ⟨h1, h2⟩
    · exact ⟨h1.1, h1.2, max a.e b.e, Nat.le_max_left _ _, Nat.le_max_right _ _, h2⟩
    · exact ⟨h1.1, h1.2, max a.e b.e, Nat.le_max_left _ _, Nat.le_max_right _ _, h2⟩
    · exact ⟨h1.1, h1.2, a.e + b.e, Nat.le_add_right _ _, Nat.le_add_left _ _, h2⟩
  obtain ⟨l1, l2, E, e1, e2, h⟩ := key
  exact ⟨⟨l1, Nat.le_trans (Nat.mul_le_mul (by omega) e1) h⟩, ⟨l2, Nat.le_trans (Nat.mul_le_mul (by omega) e2) h⟩⟩
theorem FT.ok.subp {m n : Nat} {a : FT} (h : (a.pow n).ok m) : a.ok m ∧ (a.lev + m) * a.e * max 1 n ≤ 100000 := by
  obtain ⟨h1, h2⟩ := h
  simp only [lev, e] at h2
  rw [← Nat.mul_assoc] at h2
  have z : (a.lev + m) * a.e * max 1 n ≤ 100000 := Nat.le_trans (Nat.mul_le_mul_right _ (Nat.mul_le_mul_right _ (by omega))) h2
  exact ⟨⟨h1, Nat.le_trans (Nat.le_mul_of_pos_right _ (by omega)) z⟩, z⟩
theorem rngD_get {lo : Int} {n i : Nat} {x : PD} (h : (rngD lo n)[i]? = some x) : x = .int (lo + (i : Nat)) ∧ i < n := by
  unfold rngD at h
  rw [List.getElem?_map] at h
  obtain ⟨j, h1, rfl⟩ := Option.map_eq_some_iff.mp h
  have hi : i < n := by have := (List.getElem?_eq_some_iff.mp h1).1; simpa using this
  rw [List.getElem?_range hi] at h1
  cases h1
  exact ⟨rfl, hi⟩
theorem rngD_len {lo : Int} {n : Nat} : (rngD lo n).length = n := by unfold rngD; simp
/-! powered -/
def S_powered : FSpec := ⟨fun args Q => ∃ (b : Int) (n k : Nat), args = [.d (.int b), .d (.int n)] ∧ b.natAbs < 2 ^ k ∧ 0 < k ∧ k * max 1 n ≤ 100000 ∧ Q (.d (.int (b ^ n))) []⟩
abbrev N_powered : List Str := ["number", "times", "found", "turn"]
def ir_powered : TSt :=
  (sSeq (sAsg 2 (fD (dC (.int 1))))
    (sSeq (sFor (iRg (aCons (.s 1) aNil)) (.nm 3) (sAsg 2 (fD (dBin bMulI (.s 2) (.s 0)))))
    (sRetV 2)))
theorem pow_le {k n i : Nat} (h : k * max 1 n ≤ 100000) (hk : 0 < k) (hi : i ≤ n) : k * max 1 i ≤ 100000 := Nat.le_trans (Nat.mul_le_mul_left _ (by omega)) h
theorem sp_powered : ∀ args Q, S_powered.sp args Q → ir_powered (endsOf args Q) (rho0 N_powered args) := by
  rintro args Q ⟨b, n, k, rfl, h1, h2, h3, q⟩
  have hn : n ≤ 100000 := by
    have : max 1 n ≤ k * max 1 n := Nat.le_mul_of_pos_left _ h2
    omega
  refine ⟨by omega, _, rfl, fun i ρ => ∃ t, ρ = [some (.d (.int b)), some (.d (.int n)), some (.d (.int (b ^ i))), t], ⟨none, by rw [Int.pow_zero]⟩, ?_, ?_⟩
  · rintro i x ρ hx ⟨t, rfl⟩
    obtain ⟨rfl, hi⟩ := rngD_get hx
    refine ⟨mulOk (k * max 1 i) k (two_pow h1 (Nat.le_refl _) (Nat.mul_pos h2 (by omega))) h1 ?_ (Nat.mul_pos h2 (by omega)) h2, ?_⟩
    · have := pow_le h3 h2 (show i ≤ n by omega)
      have : k ≤ k * max 1 n := Nat.le_mul_of_pos_right _ (by omega)
      omega
    · exact ⟨_, by rw [Int.pow_succ]; rfl⟩
  · rintro ρ ⟨t, rfl⟩
    rw [rngD_len]
    exact q
end DL
namespace DL
open PySem L2 PyProof.Rows
/-! what formulas come to: the program's reckoning and the law's -/
def S_worth (d : Nat) : FSpec := ⟨fun args Q => ∃ (f : FT) (u v : Int) (m : Nat), args = [.d f.pd, .d (.int u), .d (.int v)] ∧ f.lev ≤ d ∧ f.ok m ∧ u.natAbs < 2 ^ m ∧ v.natAbs < 2 ^ m ∧ Q (.d (.int (f.val u v))) []⟩
theorem S_worth0 : ∀ args Q, ¬ (S_worth 0).sp args Q := by
  rintro args Q ⟨f, u, v, m, _, h, _⟩
  have := f.lev_pos
  omega
theorem addOk {m : Nat} {f : FT} (h : f.ok m) : (f.lev + m) * f.e ≤ 100000 ∧ 0 < (f.lev + m) * f.e := ⟨h.2, Nat.mul_pos (by have := f.lev_pos; omega) f.e_pos⟩
abbrev N_worth : List Str := ["formula", "x", "y", "one", "other"]
def ir_worth (S_worth : FSpec) (S_powered : FSpec) : TSt :=
  (sSeq (sIf (tNotD (tVal (dIsi "tuple" (.s 0)))) (sRet (fD (dGetF (fDict [.inr "x", .inr "y"] [(dVar 1), (dVar 2)]) (.s 0) (.s 0)))) sNext)
    (sSeq (sAsg 3 (fCall S_worth (aCons (.e (dBin bIx (.s 0) (.e (dC (.int 1))))) (aCons (.e (dVar 1)) (aCons (.e (dVar 2)) aNil)))))
    (sSeq (sIf (tVal (dBin cEq (.e (dBin bIx (.s 0) (.e (dC (.int 0))))) (.e (dC (.str "pow"))))) (sRet (fCall S_powered (aCons (.e (dVar 3)) (aCons (.e (dBin bIx (.s 0) (.e (dC (.int 2))))) aNil)))) sNext)
    (sSeq (sAsg 4 (fCall S_worth (aCons (.e (dBin bIx (.s 0) (.e (dC (.int 2))))) (aCons (.e (dVar 1)) (aCons (.e (dVar 2)) aNil)))))
    (sSeq (sIf (tVal (dBin cEq (.e (dBin bIx (.s 0) (.e (dC (.int 0))))) (.e (dC (.str "mul"))))) (sRet (fD (dBin bMulI (.s 3) (.s 4)))) sNext)
    (sRet (fD (dIte (tVal (dBin cEq (.e (dBin bIx (.s 0) (.e (dC (.int 0))))) (.e (dC (.str "add"))))) (dBin bAdd (.s 3) (.s 4)) (dBin bSub (.s 3) (.s 4))))))))))
theorem sp_worth (d : Nat) : ∀ args Q, (S_worth (d + 1)).sp args Q → ir_worth (S_worth d) S_powered (endsOf args Q) (rho0 N_worth args) := by
  rintro args Q ⟨f, u, v, m, rfl, hl, ok, hu, hv, q⟩
  cases f with
  | int i => exact ⟨rfl, fun _ => ⟨_, rfl, q⟩, nofun⟩
  | x => exact ⟨rfl, fun _ => ⟨_, rfl, q⟩, nofun⟩
  | y => exact ⟨rfl, fun _ => ⟨_, rfl, q⟩, nofun⟩
  | pow a n =>
    have hl' : a.lev ≤ d := by simp only [FT.lev] at hl; omega
    obtain ⟨oa, hb⟩ := ok.subp
    have z := addOk oa
    refine ⟨rfl, nofun, fun _ => ⟨_, rfl, rfl, a, u, v, m, rfl, hl', oa, hu, hv, _, rfl, fun _ => ?_, nofun⟩⟩
    exact ⟨_, rfl, rfl, a.val u v, n, _, rfl, FT.small hu hv oa.1, z.2, hb, q⟩
  | mul a b =>
    have hl' : a.lev ≤ d ∧ b.lev ≤ d := by simp only [FT.lev] at hl; omega
    obtain ⟨oa, ob⟩ := FT.ok.sub1 (.inr ok)
    refine ⟨rfl, nofun, fun _ => ⟨_, rfl, rfl, a, u, v, m, rfl, hl'.1, oa, hu, hv, _, rfl, nofun, fun _ => ⟨_, rfl, rfl, b, u, v, m, rfl, hl'.2, ob, hu, hv, _, rfl, fun _ => ?_, nofun⟩⟩⟩
    exact ⟨mulOk _ _ (FT.small hu hv oa.1) (FT.small hu hv ob.1) (by have := oa.2; have := ob.2; omega) (addOk oa).2 (addOk ob).2, q⟩
  | add a b =>
    have hl' : a.lev ≤ d ∧ b.lev ≤ d := by simp only [FT.lev] at hl; omega
    obtain ⟨oa, ob⟩ := FT.ok.sub1 (.inl (.inl ok))
    refine ⟨rfl, nofun, fun _ => ⟨_, rfl, rfl, a, u, v, m, rfl, hl'.1, oa, hu, hv, _, rfl, nofun, fun _ => ⟨_, rfl, rfl, b, u, v, m, rfl, hl'.2, ob, hu, hv, _, rfl, nofun, fun _ => ⟨_, rfl, fun _ => q, nofun⟩⟩⟩⟩
  | sub a b =>
    have hl' : a.lev ≤ d ∧ b.lev ≤ d := by simp only [FT.lev] at hl; omega
    obtain ⟨oa, ob⟩ := FT.ok.sub1 (.inl (.inr ok))
    refine ⟨rfl, nofun, fun _ => ⟨_, rfl, rfl, a, u, v, m, rfl, hl'.1, oa, hu, hv, _, rfl, nofun, fun _ => ⟨_, rfl, rfl, b, u, v, m, rfl, hl'.2, ob, hu, hv, _, rfl, nofun, fun _ => ⟨_, rfl, nofun, fun _ => q⟩⟩⟩⟩
abbrev N_law_worth_98b9 : List Str := ["formula", "x", "y", "one", "found", "k", "other"]
def ir_law_worth_98b9 (S_law_worth_98b9 : FSpec) : TSt :=
  (sSeq (sIf (tVal (dIsi "str" (.s 0))) (sRet (fD (dIte (tVal (dBin cEq (.s 0) (.e (dC (.str "x"))))) (dVar 1) (dVar 2)))) sNext)
    (sSeq (sIf (tVal (dIsi "int" (.s 0))) (sRetV 0) sNext)
    (sSeq (sPar 3 4 (fCall S_law_worth_98b9 (aCons (.e (dBin bIx (.s 0) (.e (dC (.int 1))))) (aCons (.e (dVar 1)) (aCons (.e (dVar 2)) aNil)))) (fD (dC (.int 1))))
    (sSeq (sIf (tVal (dBin cEq (.e (dBin bIx (.s 0) (.e (dC (.int 0))))) (.e (dC (.str "pow"))))) (sSeq (sFor (iRg (aCons (.e (dBin bIx (.s 0) (.e (dC (.int 2))))) aNil)) (.nm 5) (sAsg 4 (fD (dBin bMulI (.s 4) (.s 3)))))
    (sRetV 4)) sNext)
    (sSeq (sAsg 6 (fCall S_law_worth_98b9 (aCons (.e (dBin bIx (.s 0) (.e (dC (.int 2))))) (aCons (.e (dVar 1)) (aCons (.e (dVar 2)) aNil)))))
    (sSeq (sIf (tVal (dBin cEq (.e (dBin bIx (.s 0) (.e (dC (.int 0))))) (.e (dC (.str "mul"))))) (sRet (fD (dBin bMulI (.s 3) (.s 6)))) sNext)
    (sRet (fD (dIte (tVal (dBin cEq (.e (dBin bIx (.s 0) (.e (dC (.int 0))))) (.e (dC (.str "add"))))) (dBin bAdd (.s 3) (.s 6)) (dBin bSub (.s 3) (.s 6)))))))))))
theorem sp_law_worth (d : Nat) : ∀ args Q, (S_worth (d + 1)).sp args Q → ir_law_worth_98b9 (S_worth d) (endsOf args Q) (rho0 N_law_worth_98b9 args) := by
  rintro args Q ⟨f, u, v, m, rfl, hl, ok, hu, hv, q⟩
  cases f with
  | int i => exact ⟨rfl, nofun, fun _ => ⟨rfl, fun _ => q, nofun⟩⟩
  | x => exact ⟨rfl, fun _ => ⟨fun _ => q, nofun⟩, nofun⟩
  | y => exact ⟨rfl, fun _ => ⟨nofun, fun _ => q⟩, nofun⟩
  | pow a n =>
    have hl' : a.lev ≤ d := by simp only [FT.lev] at hl; omega
    obtain ⟨oa, hb⟩ := ok.subp
    have z := addOk oa
    have sm := FT.small hu hv oa.1
    have hn : n ≤ 100000 := by
      have : max 1 n ≤ (a.lev + m) * a.e * max 1 n := Nat.le_mul_of_pos_left _ z.2
      omega
    refine ⟨rfl, nofun, fun _ => ⟨rfl, nofun, fun _ => ⟨_, rfl, rfl, a, u, v, m, rfl, hl', oa, hu, hv, _, rfl, fun _ => ?_, nofun⟩⟩⟩
    refine ⟨_, rfl, by omega, _, rfl, fun i ρ => ∃ t, ρ = [some (.d (FT.pow a n).pd), some (.d (.int u)), some (.d (.int v)), some (.d (.int (a.val u v))), some (.d (.int (a.val u v ^ i))), t, none], ⟨none, by rw [Int.pow_zero]⟩, ?_, ?_⟩
    · rintro i x ρ hx ⟨t, rfl⟩
      obtain ⟨rfl, hi⟩ := rngD_get hx
      refine ⟨mulOk ((a.lev + m) * a.e * max 1 i) _ (two_pow sm (Nat.le_refl _) (Nat.mul_pos z.2 (by omega))) sm ?_ (Nat.mul_pos z.2 (by omega)) z.2, ?_⟩
      · have := pow_le hb z.2 (show i ≤ n by have : i < ((n : Nat) : Int).toNat := hi; omega)
        omega
      · exact ⟨_, by rw [Int.pow_succ]; rfl⟩
    · rintro ρ ⟨t, rfl⟩
      rw [rngD_len]
      exact q
  | mul a b =>
    have hl' : a.lev ≤ d ∧ b.lev ≤ d := by simp only [FT.lev] at hl; omega
    obtain ⟨oa, ob⟩ := FT.ok.sub1 (.inr ok)
    refine ⟨rfl, nofun, fun _ => ⟨rfl, nofun, fun _ => ⟨_, rfl, rfl, a, u, v, m, rfl, hl'.1, oa, hu, hv, _, rfl, nofun, fun _ => ⟨_, rfl, rfl, b, u, v, m, rfl, hl'.2, ob, hu, hv, _, rfl, fun _ => ?_, nofun⟩⟩⟩⟩
    exact ⟨mulOk _ _ (FT.small hu hv oa.1) (FT.small hu hv ob.1) (by have := oa.2; have := ob.2; omega) (addOk oa).2 (addOk ob).2, q⟩
  | add a b =>
    have hl' : a.lev ≤ d ∧ b.lev ≤ d := by simp only [FT.lev] at hl; omega
    obtain ⟨oa, ob⟩ := FT.ok.sub1 (.inl (.inl ok))
    refine ⟨rfl, nofun, fun _ => ⟨rfl, nofun, fun _ => ⟨_, rfl, rfl, a, u, v, m, rfl, hl'.1, oa, hu, hv, _, rfl, nofun, fun _ => ⟨_, rfl, rfl, b, u, v, m, rfl, hl'.2, ob, hu, hv, _, rfl, nofun, fun _ => ⟨_, rfl, fun _ => q, nofun⟩⟩⟩⟩⟩
  | sub a b =>
    have hl' : a.lev ≤ d ∧ b.lev ≤ d := by simp only [FT.lev] at hl; omega
    obtain ⟨oa, ob⟩ := FT.ok.sub1 (.inl (.inr ok))
    refine ⟨rfl, nofun, fun _ => ⟨rfl, nofun, fun _ => ⟨_, rfl, rfl, a, u, v, m, rfl, hl'.1, oa, hu, hv, _, rfl, nofun, fun _ => ⟨_, rfl, rfl, b, u, v, m, rfl, hl'.2, ob, hu, hv, _, rfl, nofun, fun _ => ⟨_, rfl, nofun, fun _ => q⟩⟩⟩⟩⟩
/-- the rest by a clock -/
def S_hour (d : Nat) : FSpec := ⟨fun args Q => ∃ (f : FT) (c u v : Int) (m : Nat), args = [.d f.pd, .d (.int c), .d (.int u), .d (.int v)] ∧ f.lev ≤ d ∧ f.ok m ∧ u.natAbs < 2 ^ m ∧ v.natAbs < 2 ^ m ∧ 0 < c ∧ Q (.d (.int (f.val u v % c))) []⟩
abbrev N_hour : List Str := ["formula", "clock", "x", "y"]
def ir_hour (S_worth : FSpec) : TSt :=
  (sRet (fD (dBin bMod (.e (dFz (fCall S_worth (aCons (.e (dVar 0)) (aCons (.e (dVar 2)) (aCons (.e (dVar 3)) aNil)))))) (.s 1))))
theorem sp_hour (d : Nat) : ∀ args Q, (S_hour d).sp args Q → ir_hour (S_worth d) (endsOf args Q) (rho0 N_hour args) := by
  rintro args Q ⟨f, c, u, v, m, rfl, hl, ok, hu, hv, hc, q⟩
  exact ⟨rfl, f, u, v, m, rfl, hl, ok, hu, hv, hc, q⟩
end DL
namespace DL
open PySem L2 PyProof.Rows
/-! formulas drawn -/
/-- the letters that may be drawn: y where yy says so -/
def Lets (yy : Bool) (ls : List PD) : Prop := 0 < ls.length ∧ ls.length < 100 ∧ ∀ l ∈ ls, l = FT.x.pd ∨ (yy = true ∧ l = FT.y.pd)
def FT.leaf (yy : Bool) (m : Nat) (f : FT) : Prop := f.lev = 1 ∧ f.e = 1 ∧ f.le m ∧ (f.hasY = true → yy = true)
theorem lets_leaf {yy : Bool} {ls : List PD} {l : PD} (h : Lets yy ls) (hl : l ∈ ls) : ∃ f : FT, l = f.pd ∧ f.leaf yy 140 := by
  rcases h.2.2 l hl with rfl | ⟨hy, rfl⟩
  · exact ⟨.x, rfl, rfl, rfl, trivial, nofun⟩
  · exact ⟨.y, rfl, rfl, rfl, trivial, fun _ => hy⟩
def S_leaf : FSpec := ⟨fun args Q => ∃ (b : Nat) (dk ls : List PD) (yy : Bool), args = [.ls (some 0) dk, .d (.list ls)] ∧ Dk (b + 8) dk ∧ Lets yy ls ∧ ∀ (f : FT) dk', f.leaf yy 140 → Dk b dk' → Q (.d f.pd) [.ls (some 0) dk']⟩
abbrev N_law_leaf_a91b : List Str := ["deck", "letters", "far", "wide", "some"]
def ir_law_leaf_a91b (S_law_draw_a51a : FSpec) (S_law_one_90da : FSpec) : TSt :=
  (sSeq (sAsg 2 (fD (dBin bAdd (.e (dBin bMulI (.e (dFz (fCall S_law_draw_a51a (aCons (.s 0) (aCons (.e (dBin bPow (.e (dC (.int 10))) (.e (dC (.int 19))))) aNil))))) (.e (dBin bPow (.e (dC (.int 10))) (.e (dC (.int 20))))))) (.e (dFz (fCall S_law_draw_a51a (aCons (.s 0) (aCons (.e (dBin bPow (.e (dC (.int 10))) (.e (dC (.int 19))))) aNil))))))))
    (sSeq (sAsg 3 (fCall S_law_one_90da (aCons (.s 0) (aCons (.e (dFz (fLst (aCons (.e (dVar 2)) (aCons (.e (dNeg (.s 2))) (aCons (.e (dBin bSub (.e (dBin bPow (.e (dC (.int 10))) (.e (dC (.int 40))))) (.e (dC (.int 1))))) (aCons (.e (dBin bSub (.e (dC (.int 1))) (.e (dBin bPow (.e (dC (.int 10))) (.e (dC (.int 40))))))) aNil))))))) aNil))))
    (sSeq (sAsg 4 (fLst (aCons (.e (dC (.int 0))) (aCons (.e (dC (.int 1))) (aCons (.e (dNeg (.e (dC (.int 1))))) (aCons (.e (dC (.int 2))) (aCons (.e (dC (.int 3))) (aCons (.e (dNeg (.e (dC (.int 5))))) (aCons (.e (dC (.int 6))) (aCons (.e (dC (.int 12))) (aCons (.e (dBin bSub (.e (dFz (fCall S_law_draw_a51a (aCons (.s 0) (aCons (.e (dC (.int 199))) aNil))))) (.e (dC (.int 99))))) (aCons (.e (dVar 3)) aNil))))))))))))
    (sRet (fCall S_law_one_90da (aCons (.s 0) (aCons (.e (dFz (fLst (aCons (.e (dFz (fCall S_law_one_90da (aCons (.s 0) (aCons (.e (dVar 4)) aNil))))) (aCons (.e (dFz (fCall S_law_one_90da (aCons (.s 0) (aCons (.e (dVar 1)) aNil))))) (aCons (.e (dFz (fCall S_law_one_90da (aCons (.s 0) (aCons (.e (dVar 1)) aNil))))) aNil)))))) aNil)))))))
def SmI (x : PD) : Prop := ∃ i : Int, x = .int i ∧ i.natAbs < 2 ^ 140
theorem smI {i : Int} (h : i.natAbs < 2 ^ 140) : SmI (.int i) := ⟨i, rfl, h⟩
theorem sp_leaf : ∀ args Q, S_leaf.sp args Q → ir_law_leaf_a91b S_draw S_one (endsOf args Q) (rho0 N_law_leaf_a91b args) := by
  rintro args Q ⟨b, dk, ls, yy, rfl, h, hl, q⟩
  have g : (10 : Int) ^ (19 : Int).toNat = 10 ^ 19 := rfl
  refine ⟨powOk (k := 4) (m := 19) (by decide) (by decide) (by decide), rfl, b + 7, dk, _, rfl, h, ⟨by decide, by decide⟩, fun r1 dk1 a0 a1 d1 => ?_⟩
  rw [g] at a1
  refine ⟨powOk (k := 4) (m := 20) (by decide) (by decide) (by decide), mulOk 64 68 (by omega) (by decide), powOk (k := 4) (m := 19) (by decide) (by decide) (by decide), rfl, b + 6, dk1, _, rfl, d1, ⟨by decide, by decide⟩, fun r2 dk2 b0 b1 d2 => ?_⟩
  rw [g] at b1
  have far : (r1 * 10 ^ (20 : Int).toNat + r2).natAbs < 2 ^ 140 := by
    have e : (10 : Int) ^ (20 : Int).toNat = 100000000000000000000 := rfl
    rw [e]
    omega
  obtain ⟨w, hw⟩ : ∃ w, w = r1 * 10 ^ (20 : Int).toNat + r2 := ⟨_, rfl⟩
  rw [← hw] at far
  refine ⟨powOk (k := 4) (m := 40) (by decide) (by decide) (by decide), powOk (k := 4) (m := 40) (by decide) (by decide) (by decide), rfl, b + 5, dk2, _, rfl, d2, ⟨Nat.succ_pos _, by show 4 < 2 ^ 60; decide⟩, fun v dk3 hv d3 => ?_⟩
  rw [← hw] at hv
  have vs : SmI v := by
    have all : ∀ x ∈ [PyData.int w, .int (-w), .int (10 ^ (40 : Int).toNat - 1), .int (1 - 10 ^ (40 : Int).toNat)], SmI x := by
      simp only [List.forall_mem_cons]
      exact ⟨smI far, smI (by omega), smI (by decide), smI (by decide), fun x hx => by cases hx⟩
    exact all v hv
  obtain ⟨vi, rfl, hvi⟩ := vs
  refine ⟨rfl, b + 4, dk3, _, rfl, d3, ⟨by decide, by decide⟩, fun r3 dk4 c0 c1 d4 => ?_⟩
  refine ⟨rfl, b + 3, dk4, _, rfl, d4, ⟨Nat.succ_pos _, by show 10 < 2 ^ 60; decide⟩, fun s dk5 hs d5 => ?_⟩
  have ss : SmI s := by
    have all : ∀ x ∈ [PyData.int 0, .int 1, .int (-1), .int 2, .int 3, .int (-5), .int 6, .int 12, .int (r3 - 99), .int vi], SmI x := by
      simp only [List.forall_mem_cons]
      exact ⟨smI (by decide), smI (by decide), smI (by decide), smI (by decide), smI (by decide), smI (by decide), smI (by decide), smI (by decide), smI (by omega), smI hvi, fun x hx => by cases hx⟩
    exact all s hs
  obtain ⟨si, rfl, hsi⟩ := ss
  refine ⟨rfl, b + 2, dk5, ls, rfl, d5, ⟨hl.1, by have := hl.2.1; omega⟩, fun l1 dk6 hl1 d6 => ?_⟩
  refine ⟨rfl, b + 1, dk6, ls, rfl, d6, ⟨hl.1, by have := hl.2.1; omega⟩, fun l2 dk7 hl2 d7 => ?_⟩
  refine ⟨rfl, b, dk7, _, rfl, d7, ⟨by show 0 < 3; decide, by show 3 < 2 ^ 60; decide⟩, fun z dk8 hz d8 => ?_⟩
  have fin : ∃ f : FT, z = f.pd ∧ f.leaf yy 140 := by
    have all : ∀ x ∈ [PyData.int si, l1, l2], ∃ f : FT, x = f.pd ∧ f.leaf yy 140 := by
      simp only [List.forall_mem_cons]
      exact ⟨⟨.int si, rfl, rfl, rfl, hsi, nofun⟩, lets_leaf hl hl1, lets_leaf hl hl2, fun x hx => by cases hx⟩
    exact all z hz
  obtain ⟨f, rfl, hf⟩ := fin
  exact q f dk8 hf d8
/-- how often is drawn at most -/
def cst : Nat → Nat
  | 0 => 8
  | d + 1 => 2 * cst d + 3
theorem cst_ge : ∀ d, 8 ≤ cst d
  | 0 => Nat.le_refl _
  | d + 1 => by have := cst_ge d; show 8 ≤ 2 * cst d + 3; omega
def FT.drawn (yy : Bool) (m room deep : Nat) (f : FT) : Prop := f.lev ≤ deep ∧ f.e ≤ room ∧ f.le m ∧ (f.hasY = true → yy = true)
def S_formula (d : Nat) : FSpec := ⟨fun args Q => ∃ (b : Nat) (dk ls : List PD) (yy : Bool) (room deep : Nat), args = [.ls (some 0) dk, .d (.list ls), .d (.int room), .d (.int deep)] ∧ Dk (b + cst d) dk ∧ Lets yy ls ∧ 1 ≤ room ∧ room ≤ 1000 ∧ 1 ≤ deep ∧ deep ≤ d ∧
  ∀ (f : FT) dk', f.drawn yy 140 room deep → Dk b dk' → Q (.d f.pd) [.ls (some 0) dk']⟩
theorem S_formula0 : ∀ args Q, ¬ (S_formula 0).sp args Q := by
  rintro args Q ⟨b, dk, ls, yy, room, deep, _, _, _, _, _, h, h2, _⟩
  omega
abbrev N_law_formula_6b2b : List Str := ["deck", "letters", "room", "deep", "way", "word", "one", "power", "part"]
def ir_law_formula_6b2b (S_law_draw_a51a : FSpec) (S_law_leaf_a91b : FSpec) (S_law_formula_6b2b : FSpec) : TSt :=
  (sSeq (sAsg 4 (fCall S_law_draw_a51a (aCons (.s 0) (aCons (.e (dC (.int 9))) aNil))))
    (sSeq (sIf (tOrD (tVal (dBin cLt (.s 3) (.e (dC (.int 2))))) (tOrD (tVal (dBin cLt (.s 4) (.e (dC (.int 2))))) (tAndD (tVal (dBin cLt (.s 2) (.e (dC (.int 2))))) (tVal (dBin (cIn false) (.s 4) (.e (dFz (fLst (aCons (.e (dC (.int 5))) (aCons (.e (dC (.int 6))) (aCons (.e (dC (.int 7))) aNil))))))))))) (sRet (fCall S_law_leaf_a91b (aCons (.s 0) (aCons (.e (dVar 1)) aNil)))) sNext)
    (sSeq (sIf (tVal (dBin cLt (.s 4) (.e (dC (.int 5))))) (sSeq (sAsg 5 (fD (dBin bIx (.e (dFz (fLst (aCons (.e (dC (.str "add"))) (aCons (.e (dC (.str "sub"))) (aCons (.e (dC (.str "add"))) aNil)))))) (.e (dBin bSub (.s 4) (.e (dC (.int 2))))))))
    (sSeq (sAsg 6 (fCall S_law_formula_6b2b (aCons (.s 0) (aCons (.e (dVar 1)) (aCons (.e (dVar 2)) (aCons (.e (dBin bSub (.s 3) (.e (dC (.int 1))))) aNil))))))
    (sRet (fD (dTup (aCons (.e (dVar 5)) (aCons (.e (dVar 6)) (aCons (.e (dFz (fCall S_law_formula_6b2b (aCons (.s 0) (aCons (.e (dVar 1)) (aCons (.e (dVar 2)) (aCons (.e (dBin bSub (.s 3) (.e (dC (.int 1))))) aNil))))))) aNil)))))))) sNext)
    (sSeq (sIf (tVal (dBin cEq (.s 4) (.e (dC (.int 8))))) (sSeq (sAsg 7 (fCall S_law_draw_a51a (aCons (.s 0) (aCons (.e (dBin bAdd (.s 2) (.e (dC (.int 1))))) aNil))))
    (sRet (fD (dTup (aCons (.e (dC (.str "pow"))) (aCons (.e (dFz (fCall S_law_formula_6b2b (aCons (.s 0) (aCons (.e (dVar 1)) (aCons (.e (dBin bFdiv (.s 2) (.e (dBi bMax2 (aCons (.e (dC (.int 1))) (aCons (.s 7) aNil)))))) (aCons (.e (dBin bSub (.s 3) (.e (dC (.int 1))))) aNil))))))) (aCons (.e (dVar 7)) aNil))))))) sNext)
    (sSeq (sAsg 8 (fD (dBin bAdd (.e (dC (.int 1))) (.e (dFz (fCall S_law_draw_a51a (aCons (.s 0) (aCons (.e (dBin bSub (.s 2) (.e (dC (.int 1))))) aNil))))))))
    (sSeq (sAsg 6 (fCall S_law_formula_6b2b (aCons (.s 0) (aCons (.e (dVar 1)) (aCons (.e (dVar 8)) (aCons (.e (dBin bSub (.s 3) (.e (dC (.int 1))))) aNil))))))
    (sRet (fD (dTup (aCons (.e (dC (.str "mul"))) (aCons (.e (dVar 6)) (aCons (.e (dFz (fCall S_law_formula_6b2b (aCons (.s 0) (aCons (.e (dVar 1)) (aCons (.e (dBin bSub (.s 2) (.s 8))) (aCons (.e (dBin bSub (.s 3) (.e (dC (.int 1))))) aNil))))))) aNil))))))))))))
theorem sp_formula (d : Nat) : ∀ args Q, (S_formula (d + 1)).sp args Q → ir_law_formula_6b2b S_draw S_leaf (S_formula d) (endsOf args Q) (rho0 N_law_formula_6b2b args) := by
  rintro args Q ⟨b, dk, ls, yy, room, deep, rfl, h, hl, r1, r2, p1, p2, q⟩
  have hc : cst (d + 1) = 2 * cst d + 3 := rfl
  have c8 := cst_ge d
  refine ⟨rfl, b + 2 * cst d + 2, dk, 9, rfl, h.mono (by omega), ⟨by decide, by decide⟩, fun way dk1 w0 w1 d1 => ?_⟩
  have leaf : ∀ {ρ : En} {D : DE}, D.rt = retOk [.ls (some 0) dk, .d (.list ls), .d (.int room), .d (.int deep)] Q → ρ = [some (.ls (some 0) dk1), some (.d (.list ls)), some (.d (.int room)), some (.d (.int deep)), some (.d (.int way)), none, none, none, none] →
      sRet (fCall S_leaf (aCons (.s 0) (aCons (.e (dVar 1)) aNil))) D ρ := by
    rintro ρ D hD rfl
    refine ⟨rfl, b, dk1, ls, yy, rfl, d1.mono (by omega), hl, fun f dk2 hf d2 => ?_⟩
    rw [hD]
    exact q f dk2 ⟨by rw [hf.1]; exact p1, by rw [hf.2.1]; exact r1, hf.2.2.1, hf.2.2.2⟩ d2
  refine ⟨fun _ => ⟨fun _ => leaf rfl rfl, nofun⟩, fun g1 => ⟨fun _ => ⟨fun _ => leaf rfl rfl, nofun⟩, fun g2 => ⟨fun g3 => ⟨rfl, _, rfl, rfl, fun _ => leaf rfl rfl, fun g4 => ?_⟩, fun g3 => ⟨nofun, fun _ => ?_⟩⟩⟩⟩
  all_goals
    have dp : 2 ≤ deep := by
      have : ¬ ((deep : Int) < 2) := of_decide_eq_false g1
      omega
    have wy : 2 ≤ way := by
      have : ¬ (way < 2) := of_decide_eq_false g2
      omega
    have key : 2 ≤ room ∨ (way ≠ 5 ∧ way ≠ 6 ∧ way ≠ 7) := by
      first
        | (left; have : ¬ ((room : Int) < 2) := of_decide_eq_false g3; omega)
        | (right
           have z : (PyData.eqv (.int 5) (.int way) || (PyData.eqv (.int 6) (.int way) || (PyData.eqv (.int 7) (.int way) || false))) = false := g4
           simp [PyData.eqv] at z
           omega)
    clear g1 g2 g3
    obtain ⟨dp', rfl⟩ : ∃ n, deep = n + 1 := ⟨deep - 1, by omega⟩
    have ed : ((dp' + 1 : Nat) : Int) - 1 = (dp' : Nat) := by omega
    refine ⟨fun g5 => ?_, fun g5 => ⟨fun g6 => ?_, fun g6 => ?_⟩⟩
    · have w5 : way < 5 := of_decide_eq_true g5
      -- a sum or a difference
      have word : ∃ x, atI [PyData.str "add", .str "sub", .str "add"] (way - 2) = some x ∧ (x = .str "add" ∨ x = .str "sub") := by
        obtain ⟨x, e1, e2⟩ := atI_some (xs := [PyData.str "add", .str "sub", .str "add"]) (i := way - 2) (by omega) (by show way - 2 < 3; omega)
        refine ⟨x, e1, ?_⟩
        have := List.mem_of_getElem? e2
        simp only [List.mem_cons, List.not_mem_nil, or_false] at this
        rcases this with h | h | h
        · exact .inl h
        · exact .inr h
        · exact .inl h
      obtain ⟨x, ex, hx⟩ := word
      refine ⟨x, ex, rfl, b + cst d, dk1, ls, yy, room, dp', by rw [← ed]; rfl, d1.mono (by omega), hl, r1, r2, by omega, by omega, fun f dk2 hf d2 => ?_⟩
      refine ⟨rfl, b, dk2, ls, yy, room, dp', by rw [← ed]; rfl, d2, hl, r1, r2, by omega, by omega, fun g dk3 hg d3 => ?_⟩
      obtain ⟨f1, f2, f3, f4⟩ := hf
      obtain ⟨g1, g2, g3, g4⟩ := hg
      rcases hx with rfl | rfl
      · exact q (.add f g) dk3 ⟨by simp only [FT.lev]; omega, by simp only [FT.e]; omega, ⟨f3, g3⟩, by simp only [FT.hasY, Bool.or_eq_true]; exact fun h => h.elim f4 g4⟩ d3
      · exact q (.sub f g) dk3 ⟨by simp only [FT.lev]; omega, by simp only [FT.e]; omega, ⟨f3, g3⟩, by simp only [FT.hasY, Bool.or_eq_true]; exact fun h => h.elim f4 g4⟩ d3
    · -- a power
      refine ⟨rfl, b + 2 * cst d + 1, dk1, _, rfl, d1.mono (by omega), ⟨by omega, ?_⟩, fun r dk2 h0 h1 d2 => ?_⟩
      · exact Nat.lt_of_lt_of_le (log2_lt (k := 20) (by omega) (by decide)) (by decide)
      obtain ⟨n, rfl⟩ : ∃ n : Nat, r = n := ⟨r.toNat, by omega⟩
      have em : (if (n : Int) > 1 then (n : Int) else 1) = ((max 1 n : Nat) : Int) := by split <;> omega
      have er : (room : Int) / (if (n : Int) > 1 then (n : Int) else 1) = ((room / max 1 n : Nat) : Int) := by rw [em, Int.natCast_ediv]
      refine ⟨⟨by rw [em]; omega, ?_⟩, rfl, b, dk2, ls, yy, room / max 1 n, dp', by rw [← ed, ← er]; rfl, d2.mono (by omega), hl, ?_, Nat.le_trans (Nat.div_le_self _ _) r2, by omega, by omega, fun f dk3 hf d3 => ?_⟩
      · rw [em, Int.natAbs_natCast]
        exact Nat.lt_of_lt_of_le (log2_lt (i := ((max 1 n : Nat) : Int)) (k := 20) (by omega) (by decide)) (by decide)
      · exact Nat.div_pos (by omega) (by omega)
      · obtain ⟨f1, f2, f3, f4⟩ := hf
        refine q (.pow f n) dk3 ⟨by simp only [FT.lev]; omega, ?_, f3, f4⟩ d3
        simp only [FT.e]
        exact Nat.le_trans (Nat.mul_le_mul_right _ f2) (Nat.div_mul_le_self _ _)
    · -- a product
      have w5 : ¬ way < 5 := of_decide_eq_false g5
      have w8 : ¬ way = 8 := of_decide_eq_false g6
      have rm : 2 ≤ room := by omega
      refine ⟨rfl, b + 2 * cst d + 1, dk1, _, rfl, d1.mono (by omega), ⟨by omega, ?_⟩, fun r dk2 h0 h1 d2 => ?_⟩
      · exact Nat.lt_of_lt_of_le (log2_lt (k := 20) (by omega) (by decide)) (by decide)
      obtain ⟨n, rfl⟩ : ∃ n : Nat, r = n := ⟨r.toNat, by omega⟩
      have e1 : 1 + (n : Int) = ((1 + n : Nat) : Int) := by omega
      have e2 : (room : Int) - (1 + (n : Int)) = ((room - (1 + n) : Nat) : Int) := by omega
      refine ⟨rfl, b + cst d, dk2, ls, yy, 1 + n, dp', by rw [← ed, ← e1]; rfl, d2.mono (by omega), hl, by omega, by omega, by omega, by omega, fun f dk3 hf d3 => ?_⟩
      refine ⟨rfl, b, dk3, ls, yy, room - (1 + n), dp', by rw [← ed, ← e2]; rfl, d3, hl, by omega, by omega, by omega, by omega, fun g dk4 hg d4 => ?_⟩
      obtain ⟨f1, f2, f3, f4⟩ := hf
      obtain ⟨g1, g2, g3, g4⟩ := hg
      exact q (.mul f g) dk4 ⟨by simp only [FT.lev]; omega, by simp only [FT.e]; omega, ⟨f3, g3⟩, by simp only [FT.hasY, Bool.or_eq_true]; exact fun h => h.elim f4 g4⟩ d4
end DL
namespace DL
open PySem L2 PyProof.Rows
/-! tables -/
def FT.row (f : FT) (c : Int) (n : Nat) : List PD := (List.range n).map fun i => .int (f.val (i : Nat) 0 % c)
theorem FT.row_succ (f : FT) (c : Int) (n : Nat) : f.row c n ++ [.int (f.val (n : Nat) 0 % c)] = f.row c (n + 1) := by
  unfold row
  rw [List.range_succ, List.map_append]
  rfl
theorem FT.row_len (f : FT) (c : Int) (n : Nat) : (f.row c n).length = n := by unfold row; simp
def S_table (d : Nat) : FSpec := ⟨fun args Q => ∃ (f : FT) (c m : Nat), args = [.d f.pd, .d (.int c)] ∧ f.lev ≤ d ∧ f.ok m ∧ c < 2 ^ m ∧ 0 < c ∧ c ≤ 1000000 ∧ Q (.d (.tuple (f.row c c))) []⟩
theorem natAbs_lt {i c m : Nat} (h : c < 2 ^ m) (hi : i < c) : (((0 : Int) + (i : Nat))).natAbs < 2 ^ m := by
  have : ((0 : Int) + (i : Nat)).natAbs = i := by omega
  rw [this]; exact Nat.lt_trans hi h
abbrev N_table : List Str := ["formula", "clock", "x"]
def ir_table (S_hour : FSpec) : TSt :=
  (sRet (fD (dBi bTuple (aCons (.e (dFz (fLc (iRg (aCons (.s 1) aNil)) [2] (.nm 2) cYes (dFz (fCall S_hour (aCons (.e (dVar 0)) (aCons (.e (dVar 1)) (aCons (.e (dVar 2)) (aCons (.e (dC (.int 0))) aNil))))))))) aNil))))
theorem sp_table (d : Nat) : ∀ args Q, (S_table d).sp args Q → ir_table (S_hour d) (endsOf args Q) (rho0 N_table args) := by
  rintro args Q ⟨f, c, m, rfl, hl, ok, hc, c0, c1, q⟩
  refine ⟨by omega, ⟨rfl, rfl⟩, fun i acc ρ => acc = f.row c i ∧ ρ = [some (.d f.pd), some (.d (.int c)), none], ⟨rfl, rfl⟩, fun _ _ _ _ => trivial, ?_, ?_⟩
  · rintro i x acc ρ hx ⟨rfl, rfl⟩
    obtain ⟨rfl, hi⟩ := rngD_get hx
    have hi : i < c := hi
    refine ⟨fun _ => ?_, nofun⟩
    refine ⟨rfl, f, c, _, 0, m, rfl, hl, ok, natAbs_lt hc hi, Nat.pow_pos (by decide), by omega, ?_, ?_, rfl⟩
    · rw [FT.row_len, sizeLine_eq]; omega
    · rw [← FT.row_succ, show (0 : Int) + (i : Nat) = (i : Nat) by omega]
      rfl
  · rintro acc ρ ⟨rfl, rfl⟩
    have e : (Wk.items (rngD 0 ((c : Nat) : Int).toNat)).list.length = c := rngD_len
    rw [e]
    exact q
abbrev N_law_table_aeb6 : List Str := ["formula", "clock", "x"]
def ir_law_table_aeb6 (S_law_worth_98b9 : FSpec) : TSt :=
  (sRet (fD (dBi bTuple (aCons (.e (dFz (fLc (iRg (aCons (.s 1) aNil)) [2] (.nm 2) cYes (dBin bMod (.e (dBi bInt (aCons (.e (dFz (fCall S_law_worth_98b9 (aCons (.e (dVar 0)) (aCons (.e (dVar 2)) (aCons (.e (dC (.int 0))) aNil)))))) aNil))) (.s 1))))) aNil))))
theorem sp_law_table (d : Nat) : ∀ args Q, (S_table d).sp args Q → ir_law_table_aeb6 (S_worth d) (endsOf args Q) (rho0 N_law_table_aeb6 args) := by
  rintro args Q ⟨f, c, m, rfl, hl, ok, hc, c0, c1, q⟩
  refine ⟨by omega, ⟨rfl, rfl⟩, fun i acc ρ => acc = f.row c i ∧ ρ = [some (.d f.pd), some (.d (.int c)), none], ⟨rfl, rfl⟩, fun _ _ _ _ => trivial, ?_, ?_⟩
  · rintro i x acc ρ hx ⟨rfl, rfl⟩
    obtain ⟨rfl, hi⟩ := rngD_get hx
    have hi : i < c := hi
    refine ⟨fun _ => ?_, nofun⟩
    refine ⟨rfl, f, _, 0, m, rfl, hl, ok, natAbs_lt hc hi, Nat.pow_pos (by decide), by omega, ?_, ?_, rfl⟩
    · rw [FT.row_len, sizeLine_eq]; omega
    · rw [← FT.row_succ, show (0 : Int) + (i : Nat) = (i : Nat) by omega]
  · rintro acc ρ ⟨rfl, rfl⟩
    have e : (Wk.items (rngD 0 ((c : Nat) : Int).toNat)).list.length = c := rngD_len
    rw [e]
    exact q
end DL
/-! The data layer, part p: how long a repr is. -/
namespace DL
open PySem L2 PyProof.Rows
def lenS (z : Nat) : List Str → Nat
  | [] => 0
  | t :: r => t.length + 2 + lenS z r
theorem lenS_le {z : Nat} : ∀ {ts : List Str}, (∀ t ∈ ts, t.length ≤ z) → lenS z ts ≤ ts.length * (z + 2)
  | [], _ => by simp [lenS]
  | t :: r, h => by
    have h1 := h t List.mem_cons_self
    have h2 := lenS_le (ts := r) fun y hy => h y (List.mem_cons_of_mem _ hy)
    rw [lenS, List.length_cons, Nat.add_mul, Nat.one_mul]
    omega
theorem textFrom_le (z : Nat) : ∀ (ts : List Str) (k : Nat) (acc : Str), (textFrom k acc ts).length ≤ acc.length + lenS z ts
  | [], k, acc => by show acc.length ≤ _; omega
  | t :: r, k, acc => by
    have h := textFrom_le z r (k + 1) (acc ++ (if k > 0 then ", " else "" : String) ++ t)
    have e : textFrom k acc (t :: r) = textFrom (k + 1) (acc ++ (if k > 0 then ", " else "" : String) ++ t) r := rfl
    rw [e]
    rw [strLen_append, strLen_append] at h
    have : (Str.ofString (if k > 0 then ", " else "" : String)).length ≤ 2 := by split <;> decide
    rw [lenS]
    omega
theorem listText_le (z : Nat) (ts : List Str) : (listText ts).length ≤ 2 + lenS z ts := by
  have h := textFrom_le z ts 0 "["
  have e : (listText ts).length = (textFrom 0 "[" ts).length + 1 := by
    show (textFrom 0 "[" ts ++ "]").length = _
    rw [strLen_append]; rfl
  have : (Str.ofString "[").length = 1 := by decide
  omega
theorem join_le (z : Nat) : ∀ ts : List Str, (Str.join ", " ts).length ≤ lenS z ts
  | [] => by show 0 ≤ _; exact Nat.zero_le _
  | [x] => by show x.length ≤ x.length + 2 + 0; omega
  | x :: y :: r => by
    have h := join_le z (y :: r)
    have e : Str.join ", " (x :: y :: r) = x ++ ", " ++ Str.join ", " (y :: r) := rfl
    rw [e, strLen_append, strLen_append, lenS]
    have : (Str.ofString ", ").length = 2 := by decide
    omega
theorem tupleText_le (z : Nat) (ts : List Str) : (tupleText ts).length ≤ 3 + lenS z ts := by
  have h := join_le z ts
  unfold tupleText
  rw [strLen_append, strLen_append]
  have : (Str.ofString (if ts.length == 1 then ",)" else ")" : String)).length ≤ 2 := by split <;> decide
  have : (Str.ofString "(").length = 1 := by decide
  omega
/-- what repr shows: of a depth of at most n, of at most z signs -/
structure Shw (n z : Nat) (d : PD) : Prop where
  nd : noDict d = true
  sh : shw d = true
  dp : d.depth ≤ n
  ln : d.shown.length ≤ z
theorem Shw.mono {n n' z z' : Nat} {d : PD} (h : Shw n z d) (h1 : n ≤ n') (h2 : z ≤ z') : Shw n' z' d := ⟨h.nd, h.sh, Nat.le_trans h.dp h1, Nat.le_trans h.ln h2⟩
/-- .. within the bounds of repr -/
theorem Shw.ok {n z : Nat} {d : PD} (h : Shw n z d) (h1 : n ≤ 60 := by decide) (h2 : z ≤ 16777216 := by decide) : noDict d = true ∧ shw d = true ∧ d.depth ≤ 60 ∧ d.shown.length ≤ sizeLine :=
  ⟨h.nd, h.sh, Nat.le_trans h.dp h1, by rw [sizeLine_eq]; exact Nat.le_trans h.ln h2⟩
theorem shownAll_map : ∀ xs : List PD, PyData.shownAll xs = xs.map PyData.shown
  | [] => rfl
  | x :: r => by rw [PyData.shownAll, shownAll_map r]; rfl
theorem Shw.int {n k : Nat} {i : Int} (h : i.natAbs < 2 ^ k) (hk : k ≤ 14000 := by decide) (h0 : 0 < k := by decide) : Shw n (k + 1) (.int i) := by
  refine ⟨rfl, ?_, Nat.zero_le _, ?_⟩
  · have z : (2 : Nat) ^ 14000 ≤ 10 ^ 4300 := by decide +kernel
    have : i.natAbs < 10 ^ 4300 := Nat.lt_of_lt_of_le h (Nat.le_trans (Nat.pow_le_pow_right (by decide) hk) z)
    exact decide_eq_true this
  · have := int_text_length_le h0 (log2_lt h h0)
    rw [PyData.shown, PySem.ofString_length]
    exact this
theorem Shw.non {n : Nat} : Shw n 4 .none := ⟨rfl, rfl, Nat.zero_le _, by rw [PyData.shown]; decide⟩
theorem Shw.bl {n : Nat} (b : Bool) : Shw n 5 (.bool b) := ⟨rfl, rfl, Nat.zero_le _, by rw [PyData.shown]; cases b <;> decide⟩
theorem Shw.str {n z : Nat} {x : Str} (h : (reprText x).length ≤ z) : Shw n z (.str x) := ⟨rfl, rfl, Nat.zero_le _, by rw [PyData.shown]; exact h⟩
theorem Shw.list {n z : Nat} {xs : List PD} (h : ∀ x ∈ xs, Shw n z x) : Shw (n + 1) (2 + xs.length * (z + 2)) (.list xs) := by
  refine ⟨?_, ?_, ?_, ?_⟩
  · rw [noDict, noDictA_map, List.all_eq_true]; exact fun x hx => (h x hx).nd
  · rw [shw, shwA_map, List.all_eq_true]; exact fun x hx => (h x hx).sh
  · simp only [PyData.depth]; exact Nat.succ_le_succ (depthAll_le fun x hx => (h x hx).dp)
  · rw [PyData.shown, shownAll_map]
    have a := listText_le z (xs.map PyData.shown)
    have b := lenS_le (z := z) (ts := xs.map PyData.shown) fun t ht => by
      obtain ⟨x, hx, rfl⟩ := List.mem_map.mp ht
      exact (h x hx).ln
    rw [List.length_map] at b
    omega
theorem Shw.tup {n z : Nat} {xs : List PD} (h : ∀ x ∈ xs, Shw n z x) : Shw (n + 1) (3 + xs.length * (z + 2)) (.tuple xs) := by
  refine ⟨?_, ?_, ?_, ?_⟩
  · rw [noDict, noDictA_map, List.all_eq_true]; exact fun x hx => (h x hx).nd
  · rw [shw, shwA_map, List.all_eq_true]; exact fun x hx => (h x hx).sh
  · simp only [PyData.depth]; exact Nat.succ_le_succ (depthAll_le fun x hx => (h x hx).dp)
  · rw [PyData.shown, shownAll_map]
    have a := tupleText_le z (xs.map PyData.shown)
    have b := lenS_le (z := z) (ts := xs.map PyData.shown) fun t ht => by
      obtain ⟨x, hx, rfl⟩ := List.mem_map.mp ht
      exact (h x hx).ln
    rw [List.length_map] at b
    omega
end DL
namespace DL
open PySem L2 PyProof.Rows
/-! reprs of formulas and tables -/
theorem Shw.tup3 {n x y z : Nat} {a b c : PD} (h1 : Shw n x a) (h2 : Shw n y b) (h3 : Shw n z c) : Shw (n + 1) (x + y + z + 9) (.tuple [a, b, c]) := by
  refine ⟨?_, ?_, ?_, ?_⟩
  · simp [noDict, noDictA, h1.nd, h2.nd, h3.nd]
  · simp [shw, shwA, h1.sh, h2.sh, h3.sh]
  · simp only [PyData.depth]
    exact Nat.succ_le_succ (depthAll_le fun w hw => by
      simp only [List.mem_cons, List.not_mem_nil, or_false] at hw
      rcases hw with rfl | rfl | rfl
      · exact h1.dp
      · exact h2.dp
      · exact h3.dp)
  · rw [PyData.shown, shownAll_map]
    have a := tupleText_le 0 ([a, b, c].map PyData.shown)
    have e1 := h1.ln
    have e2 := h2.ln
    have e3 := h3.ln
    simp only [List.map_cons, List.map_nil, lenS] at a ⊢
    omega
def FT.sz (m : Nat) : FT → Nat
  | add a b | sub a b | mul a b => a.sz m + b.sz m + 14
  | pow a _ => a.sz m + 35
  | _ => m + 3
theorem FT.shw {m : Nat} (hm : m ≤ 14000) (h0 : 0 < m) : ∀ {f : FT}, f.le m → f.e < 2 ^ 20 → Shw f.lev (f.sz m) f.pd
  | int i, h, _ => (Shw.int h hm h0).mono (Nat.le_refl _) (by simp only [sz]; omega)
  | x, _, _ => Shw.str (by show _ ≤ m + 3; exact Nat.le_trans (show (reprText "x").length ≤ 3 by decide +kernel) (by omega))
  | y, _, _ => Shw.str (by show _ ≤ m + 3; exact Nat.le_trans (show (reprText "y").length ≤ 3 by decide +kernel) (by omega))
  | add a b, h, he => by
    simp only [FT.e] at he
    have z := Shw.tup3 (n := max a.lev b.lev) (Shw.str (z := 5) (x := "add") (by decide +kernel)) ((shw hm h0 h.1 (by omega)).mono (Nat.le_max_left _ _) (Nat.le_refl _)) ((shw hm h0 h.2 (by omega)).mono (Nat.le_max_right _ _) (Nat.le_refl _))
    exact z.mono (Nat.le_refl _) (by simp only [sz]; omega)
  | sub a b, h, he => by
    simp only [FT.e] at he
    have z := Shw.tup3 (n := max a.lev b.lev) (Shw.str (z := 5) (x := "sub") (by decide +kernel)) ((shw hm h0 h.1 (by omega)).mono (Nat.le_max_left _ _) (Nat.le_refl _)) ((shw hm h0 h.2 (by omega)).mono (Nat.le_max_right _ _) (Nat.le_refl _))
    exact z.mono (Nat.le_refl _) (by simp only [sz]; omega)
  | mul a b, h, he => by
    simp only [FT.e] at he
    have z := Shw.tup3 (n := max a.lev b.lev) (Shw.str (z := 5) (x := "mul") (by decide +kernel)) ((shw hm h0 h.1 (by omega)).mono (Nat.le_max_left _ _) (Nat.le_refl _)) ((shw hm h0 h.2 (by omega)).mono (Nat.le_max_right _ _) (Nat.le_refl _))
    exact z.mono (Nat.le_refl _) (by simp only [sz]; omega)
  | pow a n, h, he => by
    simp only [FT.e] at he
    have e1 : a.e ≤ a.e * max 1 n := Nat.le_mul_of_pos_right _ (by omega)
    have e2 : max 1 n ≤ a.e * max 1 n := Nat.le_mul_of_pos_left _ a.e_pos
    have z := Shw.tup3 (n := a.lev) (Shw.str (z := 5) (x := "pow") (by decide +kernel)) (shw hm h0 (f := a) h (by omega)) (Shw.int (i := (n : Nat)) (k := 20) (by omega))
    exact z.mono (Nat.le_refl _) (by simp only [sz]; omega)
theorem FT.sz_le {m : Nat} : ∀ f : FT, f.sz m + 40 ≤ (m + 40) * 2 ^ f.lev
  | int _ => by simp only [sz, lev]; omega
  | x => by simp only [sz, lev]; omega
  | y => by simp only [sz, lev]; omega
  | add a b => key (sz_le a) (sz_le b)
  | sub a b => key (sz_le a) (sz_le b)
  | mul a b => key (sz_le a) (sz_le b)
  | pow a _ => by
    have h := sz_le (m := m) a
    simp only [sz, lev, Nat.pow_succ]
    have : 40 ≤ (m + 40) * 2 ^ a.lev := Nat.le_trans (by omega) (Nat.le_mul_of_pos_right _ (Nat.pow_pos (by decide)))
    rw [← Nat.mul_assoc]
    omega
where
  key {s t a b : Nat} (h1 : s + 40 ≤ (m + 40) * 2 ^ a) (h2 : t + 40 ≤ (m + 40) * 2 ^ b) : s + t + 14 + 40 ≤ (m + 40) * 2 ^ (max a b + 1) := by
    have x1 : (m + 40) * 2 ^ a ≤ (m + 40) * 2 ^ max a b := Nat.mul_le_mul_left _ (Nat.pow_le_pow_right (by decide) (Nat.le_max_left _ _))
    have x2 : (m + 40) * 2 ^ b ≤ (m + 40) * 2 ^ max a b := Nat.mul_le_mul_left _ (Nat.pow_le_pow_right (by decide) (Nat.le_max_right _ _))
    rw [Nat.pow_succ, ← Nat.mul_assoc]
    omega
/-- a drawn formula's repr -/
theorem FT.drawn.shw {yy : Bool} {room deep : Nat} {f : FT} (h : f.drawn yy 140 room deep) (hr : room ≤ 1000) (hd : deep ≤ 16) : Shw 16 (180 * 2 ^ 16) f.pd := by
  have z := FT.shw (m := 140) (by decide) (by decide) h.2.2.1 (by have := h.2.1; omega)
  refine z.mono (Nat.le_trans h.1 hd) ?_
  have a := f.sz_le (m := 140)
  have b : (140 + 40) * 2 ^ f.lev ≤ 180 * 2 ^ 16 := Nat.mul_le_mul_left _ (Nat.pow_le_pow_right (by decide) (Nat.le_trans h.1 hd))
  omega
/-- .. it is reckoned with -/
theorem FT.drawn.ok {yy : Bool} {room deep m : Nat} {f : FT} (h : f.drawn yy 140 room deep) (hm : 140 ≤ m) (hb : (deep + m) * room ≤ 100000) : f.ok m := by
  obtain ⟨h1, h2, h3, _⟩ := h
  refine ⟨?_, Nat.le_trans (Nat.mul_le_mul (by omega) h2) hb⟩
  have go : ∀ g : FT, g.le 140 → g.le m := fun g => by
    induction g with
    | int i => exact fun h => Nat.lt_of_lt_of_le h (Nat.pow_le_pow_right (by decide) hm)
    | x => exact id
    | y => exact id
    | add a b ha hb => exact fun h => ⟨ha h.1, hb h.2⟩
    | sub a b ha hb => exact fun h => ⟨ha h.1, hb h.2⟩
    | mul a b ha hb => exact fun h => ⟨ha h.1, hb h.2⟩
    | pow a n ha => exact ha
  exact go f h3
theorem FT.row_shw (f : FT) {c n k : Nat} (hc : c ≤ 2 ^ k) (h0 : 0 < c) (hk : k ≤ 14000 := by decide) (hk0 : 0 < k := by decide) : Shw 1 (3 + n * (k + 3)) (.tuple (f.row c n)) := by
  have z := Shw.tup (n := 0) (z := k + 1) (xs := f.row c n) fun x hx => by
    unfold row at hx
    obtain ⟨i, _, rfl⟩ := List.mem_map.mp hx
    have h1 := Int.emod_lt_of_pos (f.val (i : Nat) 0) (b := (c : Int)) (by omega)
    have h2 := Int.emod_nonneg (f.val (i : Nat) 0) (b := (c : Int)) (by omega)
    exact Shw.int (by omega) hk hk0
  rw [FT.row_len] at z
  exact z
theorem FT.row_shp (f : FT) (c : Int) (n : Nat) : Shp 1 (.tuple (f.row c n)) := Shp.tup fun x hx => by
  unfold row at hx
  obtain ⟨i, _, rfl⟩ := List.mem_map.mp hx
  exact .int _
end DL
namespace DL
open PySem L2 PyProof.Rows
/-! clocks and far numbers drawn -/
def S_clock : FSpec := ⟨fun args Q => ∃ (b : Nat) (dk : List PD), args = [.ls (some 0) dk] ∧ Dk (b + 7) dk ∧ ∀ (c : Nat) dk', 0 < c → c ≤ 2 ^ 100 → Dk b dk' → Q (.d (.int c)) [.ls (some 0) dk']⟩
def ClI (x : PD) : Prop := ∃ c : Nat, x = .int c ∧ 0 < c ∧ c ≤ 2 ^ 100
theorem clI {i : Int} (h0 : 0 < i) (h : i ≤ 2 ^ 100) : ClI (.int i) := ⟨i.toNat, by rw [Int.toNat_of_nonneg (by omega)], by omega, by omega⟩
theorem log2_const {i : Int} {k : Nat} (h : i.natAbs < 2 ^ k) (h0 : 0 < k := by decide) (hk : k ≤ 8000 := by decide) : i.natAbs.log2 < 8000 := Nat.lt_of_lt_of_le (log2_lt h h0) hk
abbrev N_law_clock_4333 : List Str := ["deck", "some"]
def ir_law_clock_4333 (S_law_draw_a51a : FSpec) (S_law_one_90da : FSpec) : TSt :=
  (sSeq (sAsg 1 (fLst (aCons (.e (dBin bAdd (.e (dC (.int 1))) (.e (dFz (fCall S_law_draw_a51a (aCons (.s 0) (aCons (.e (dC (.int 12))) aNil))))))) (aCons (.e (dBin bAdd (.e (dC (.int 1))) (.e (dFz (fCall S_law_draw_a51a (aCons (.s 0) (aCons (.e (dC (.int 60))) aNil))))))) (aCons (.e (dBin bShl (.e (dC (.int 1))) (.e (dFz (fCall S_law_draw_a51a (aCons (.s 0) (aCons (.e (dC (.int 100))) aNil))))))) (aCons (.e (dC (.int 720))) (aCons (.e (dC (.int 30030))) (aCons (.e (dBin bMulI (.e (dC (.int 2))) (.e (dBin bPow (.e (dC (.int 10))) (.e (dC (.int 12))))))) aNil))))))))
    (sSeq (sAsg 1 (fD (dBin bAdd (.s 1) (.e (dFz (fLst (aCons (.e (dBin bSub (.e (dBin bPow (.e (dC (.int 10))) (.e (dC (.int 30))))) (.e (dFz (fCall S_law_draw_a51a (aCons (.s 0) (aCons (.e (dC (.int 1000))) aNil))))))) (aCons (.e (dBin bAdd (.e (dC (.int 1))) (.e (dBin bMulI (.e (dFz (fCall S_law_draw_a51a (aCons (.s 0) (aCons (.e (dBin bPow (.e (dC (.int 10))) (.e (dC (.int 15))))) aNil))))) (.e (dFz (fCall S_law_draw_a51a (aCons (.s 0) (aCons (.e (dBin bPow (.e (dC (.int 10))) (.e (dC (.int 15))))) aNil))))))))) aNil))))))))
    (sRet (fCall S_law_one_90da (aCons (.s 0) (aCons (.e (dVar 1)) aNil))))))
theorem sp_clock : ∀ args Q, S_clock.sp args Q → ir_law_clock_4333 S_draw S_one (endsOf args Q) (rho0 N_law_clock_4333 args) := by
  rintro args Q ⟨b, dk, rfl, h, q⟩
  have e30 : (10 : Int) ^ (30 : Int).toNat = 1000000000000000000000000000000 := rfl
  have e15 : (10 : Int) ^ (15 : Int).toNat = 1000000000000000 := rfl
  have e12 : (10 : Int) ^ (12 : Int).toNat = 1000000000000 := rfl
  refine ⟨rfl, b + 6, dk, 12, rfl, h, ⟨by decide, by decide⟩, fun r1 dk1 a0 a1 d1 => ?_⟩
  refine ⟨rfl, b + 5, dk1, 60, rfl, d1, ⟨by decide, by decide⟩, fun r2 dk2 b0 b1 d2 => ?_⟩
  refine ⟨rfl, b + 4, dk2, 100, rfl, d2, ⟨by decide, by decide⟩, fun r3 dk3 c0 c1 d3 => ?_⟩
  refine ⟨⟨c0, by omega, by decide⟩, powOk (k := 4) (m := 12) (by decide) (by decide) (by decide), mulOk 2 50 (by decide) (by decide), powOk (k := 4) (m := 30) (by decide) (by decide) (by decide), ?_⟩
  refine ⟨rfl, b + 3, dk3, 1000, rfl, d3, ⟨by decide, by decide⟩, fun r4 dk4 f0 f1 d4 => ?_⟩
  refine ⟨powOk (k := 4) (m := 15) (by decide) (by decide) (by decide), rfl, b + 2, dk4, _, rfl, d4, ⟨by decide, by decide⟩, fun r5 dk5 g0 g1 d5 => ?_⟩
  refine ⟨powOk (k := 4) (m := 15) (by decide) (by decide) (by decide), rfl, b + 1, dk5, _, rfl, d5, ⟨by decide, by decide⟩, fun r6 dk6 h0 h1 d6 => ?_⟩
  rw [e15] at g1 h1
  refine ⟨mulOk 60 60 (by omega) (by omega), by show 6 + 2 ≤ sizeLine; rw [sizeLine_eq]; decide, ?_⟩
  refine ⟨rfl, b, dk6, _, rfl, d6, ⟨Nat.succ_pos _, by show 8 < 2 ^ 60; decide⟩, fun z dk7 hz d7 => ?_⟩
  have p3 : (1 : Int) * 2 ^ r3.toNat ≤ 2 ^ 100 := by
    rw [Int.one_mul]
    have : (2 : Nat) ^ r3.toNat ≤ 2 ^ 100 := Nat.pow_le_pow_right (by decide) (by omega)
    exact_mod_cast this
  have p3' : (0 : Int) < 1 * 2 ^ r3.toNat := by
    rw [Int.one_mul]; exact Int.pow_pos (by decide)
  have p5 : r5 * r6 ≤ 1000000000000000 * 1000000000000000 := Int.mul_le_mul (by omega) (by omega) h0 (by omega)
  have p5' : 0 ≤ r5 * r6 := Int.mul_nonneg g0 h0
  have all : ∀ x ∈ [PyData.int (1 + r1), .int (1 + r2), .int (1 * 2 ^ r3.toNat), .int 720, .int 30030, .int (2 * 10 ^ (12 : Int).toNat), .int (10 ^ (30 : Int).toNat - r4), .int (1 + r5 * r6)], ClI x := by
    simp only [List.forall_mem_cons]
    exact ⟨clI (by omega) (by omega), clI (by omega) (by omega), clI p3' p3, clI (by decide) (by decide), clI (by decide) (by decide), clI (by decide) (by decide), clI (by rw [e30]; omega) (by rw [e30]; omega), clI (by omega) (by omega), fun x hx => by cases hx⟩
  obtain ⟨c, rfl, k0, k1⟩ := all z hz
  exact q c dk7 k0 k1 d7
def S_far : FSpec := ⟨fun args Q => ∃ (b : Nat) (dk : List PD), args = [.ls (some 0) dk] ∧ Dk (b + 5) dk ∧ ∀ (i : Int) dk', i.natAbs < 2 ^ 200 → Dk b dk' → Q (.d (.int i)) [.ls (some 0) dk']⟩
abbrev N_law_far_43d2 : List Str := ["deck", "far"]
def ir_law_far_43d2 (S_law_draw_a51a : FSpec) (S_law_one_90da : FSpec) : TSt :=
  (sSeq (sAsg 1 (fD (dBin bAdd (.e (dBin bMulI (.e (dFz (fCall S_law_draw_a51a (aCons (.s 0) (aCons (.e (dBin bPow (.e (dC (.int 10))) (.e (dC (.int 30))))) aNil))))) (.e (dBin bPow (.e (dC (.int 10))) (.e (dC (.int 30))))))) (.e (dFz (fCall S_law_draw_a51a (aCons (.s 0) (aCons (.e (dBin bPow (.e (dC (.int 10))) (.e (dC (.int 30))))) aNil))))))))
    (sRet (fCall S_law_one_90da (aCons (.s 0) (aCons (.e (dFz (fLst (aCons (.e (dFz (fCall S_law_draw_a51a (aCons (.s 0) (aCons (.e (dC (.int 20))) aNil))))) (aCons (.e (dBin bSub (.e (dFz (fCall S_law_draw_a51a (aCons (.s 0) (aCons (.e (dC (.int 200))) aNil))))) (.e (dC (.int 100))))) (aCons (.e (dVar 1)) (aCons (.e (dNeg (.s 1))) aNil))))))) aNil)))))
theorem sp_far : ∀ args Q, S_far.sp args Q → ir_law_far_43d2 S_draw S_one (endsOf args Q) (rho0 N_law_far_43d2 args) := by
  rintro args Q ⟨b, dk, rfl, h, q⟩
  have e30 : (10 : Int) ^ (30 : Int).toNat = 1000000000000000000000000000000 := rfl
  refine ⟨powOk (k := 4) (m := 30) (by decide) (by decide) (by decide), rfl, b + 4, dk, _, rfl, h, ⟨by decide, by decide⟩, fun r1 dk1 a0 a1 d1 => ?_⟩
  rw [e30] at a1
  refine ⟨powOk (k := 4) (m := 30) (by decide) (by decide) (by decide), mulOk 100 100 (by omega) (by decide), powOk (k := 4) (m := 30) (by decide) (by decide) (by decide), rfl, b + 3, dk1, _, rfl, d1, ⟨by decide, by decide⟩, fun r2 dk2 b0 b1 d2 => ?_⟩
  rw [e30] at b1
  have far : (r1 * 10 ^ (30 : Int).toNat + r2).natAbs < 2 ^ 200 := by
    rw [e30]; omega
  obtain ⟨w, hw⟩ : ∃ w, w = r1 * 10 ^ (30 : Int).toNat + r2 := ⟨_, rfl⟩
  rw [← hw] at far
  refine ⟨rfl, b + 2, dk2, 20, rfl, d2, ⟨by decide, by decide⟩, fun r3 dk3 c0 c1 d3 => ?_⟩
  refine ⟨rfl, b + 1, dk3, 200, rfl, d3, ⟨by decide, by decide⟩, fun r4 dk4 f0 f1 d4 => ?_⟩
  refine ⟨rfl, b, dk4, _, rfl, d4, ⟨Nat.succ_pos _, by show 4 < 2 ^ 60; decide⟩, fun z dk5 hz d5 => ?_⟩
  rw [← hw] at hz
  have all : ∀ x ∈ [PyData.int r3, .int (r4 - 100), .int w, .int (-w)], ∃ i : Int, x = .int i ∧ i.natAbs < 2 ^ 200 := by
    simp only [List.forall_mem_cons]
    exact ⟨⟨_, rfl, by omega⟩, ⟨_, rfl, by omega⟩, ⟨_, rfl, far⟩, ⟨_, rfl, by omega⟩, fun x hx => by cases hx⟩
  obtain ⟨i, rfl, hi⟩ := all z hz
  exact q i dk5 hi d5
/-! hours alone count -/
theorem emod_pow {a b c : Int} (h : a % c = b % c) : ∀ n : Nat, a ^ n % c = b ^ n % c
  | 0 => by rw [Int.pow_zero, Int.pow_zero]
  | n + 1 => by rw [Int.pow_succ, Int.pow_succ, Int.mul_emod, emod_pow h n, h, ← Int.mul_emod]
theorem FT.val_cong {c u u' v v' : Int} (hu : u % c = u' % c) (hv : v % c = v' % c) : ∀ f : FT, f.val u v % c = f.val u' v' % c
  | int i => rfl
  | x => hu
  | y => hv
  | add a b => by simp only [val]; rw [Int.add_emod, val_cong hu hv a, val_cong hu hv b, ← Int.add_emod]
  | sub a b => by simp only [val]; rw [Int.sub_emod, val_cong hu hv a, val_cong hu hv b, ← Int.sub_emod]
  | mul a b => by simp only [val]; rw [Int.mul_emod, val_cong hu hv a, val_cong hu hv b, ← Int.mul_emod]
  | pow a n => by simp only [val]; exact emod_pow (val_cong hu hv a) n
theorem lets_xy : Lets true [FT.x.pd, FT.y.pd] := ⟨by decide, by decide, fun l hl => by
  simp only [List.mem_cons, List.not_mem_nil, or_false] at hl
  rcases hl with h | h
  · exact .inl h
  · exact .inr ⟨rfl, h⟩⟩
end DL
namespace DL
open PySem L2 PyProof.Rows
/-! common divisors, falling products, formulas that are nearly alike -/
def natAt (i : Nat) (ρ : En) : Nat := match ρ[i]? with
  | some (some (.d (.int n))) => n.toNat
  | _ => 0
def S_common : FSpec := ⟨fun args Q => ∃ a b : Nat, args = [.d (.int a), .d (.int b)] ∧ Q (.d (.int (Nat.gcd a b))) []⟩
abbrev N_law_common_ae84 : List Str := ["one", "other"]
def ir_law_common_ae84 : TSt :=
  (sSeq (sWhile (tVal (dBin cGt (.s 1) (.e (dC (.int 0))))) (sPar 0 1 (fD (dVar 1)) (fD (dBin bMod (.e (dBi bInt (aCons (.s 0) aNil))) (.s 1)))))
    (sRetV 0))
theorem gcd_turn {x y : Nat} (h : 0 < y) : Nat.gcd y (x % y) = Nat.gcd x y := by
  rw [Nat.gcd_comm x y, Nat.gcd_rec y x, Nat.gcd_comm]
theorem sp_law_common : ∀ args Q, S_common.sp args Q → ir_law_common_ae84 (endsOf args Q) (rho0 N_law_common_ae84 args) := by
  rintro args Q ⟨a, b, rfl, q⟩
  refine ⟨fun ρ => ∃ x y : Nat, ρ = [some (.d (.int x)), some (.d (.int y))] ∧ Nat.gcd x y = Nat.gcd a b, natAt 1, ⟨a, b, rfl, rfl⟩, ?_⟩
  rintro ρ ⟨x, y, rfl, hg⟩
  refine ⟨fun h => ?_, fun h => ?_⟩
  · have hy : (0 : Int) < (y : Int) := of_decide_eq_true h
    refine ⟨hy, ⟨y, x % y, by rw [Int.natCast_emod]; rfl, ?_⟩, ?_⟩
    · rw [gcd_turn (by omega)]; exact hg
    · show ((x : Int) % (y : Int)).toNat < ((y : Nat) : Int).toNat
      have h1 := Int.emod_lt_of_pos (x : Int) hy
      have h2 := Int.emod_nonneg (x : Int) (b := (y : Int)) (by omega)
      omega
  · have hy : ¬ (0 : Int) < (y : Int) := of_decide_eq_false h
    have : y = 0 := by omega
    subst this
    rw [Nat.gcd_zero_right] at hg
    subst hg
    exact q
def fallI (x : Int) : Nat → Int
  | 0 => 1
  | n + 1 => fallI x n * (x - (n : Nat))
theorem fallI_small {x : Int} {m : Nat} : ∀ {n : Nat}, x.natAbs + n < 2 ^ m → (fallI x n).natAbs < 2 ^ (m * n + 1)
  | 0, _ => by show (1 : Int).natAbs < _; simp
  | n + 1, h => by
    have a := fallI_small (x := x) (m := m) (n := n) (by omega)
    have b : (x - (n : Nat)).natAbs < 2 ^ m := by omega
    exact two_mul a b (by rw [Nat.mul_add]; omega)
def S_falling : FSpec := ⟨fun args Q => ∃ (x : Int) (n m : Nat), args = [.d (.int x), .d (.int n)] ∧ x.natAbs + n < 2 ^ m ∧ 0 < m ∧ n ≤ 100000 ∧ m * n + m ≤ 400000 ∧ Q (.d (.int (fallI x n))) []⟩
abbrev N_law_falling_d92b : List Str := ["x", "many", "found", "k"]
def ir_law_falling_d92b : TSt :=
  (sSeq (sAsg 2 (fD (dC (.int 1))))
    (sSeq (sFor (iRg (aCons (.s 1) aNil)) (.nm 3) (sAsg 2 (fD (dBin bMulI (.s 2) (.e (dBin bSub (.s 0) (.s 3)))))))
    (sRetV 2)))
theorem sp_law_falling : ∀ args Q, S_falling.sp args Q → ir_law_falling_d92b (endsOf args Q) (rho0 N_law_falling_d92b args) := by
  rintro args Q ⟨x, n, m, rfl, h1, h2, h3, h4, q⟩
  refine ⟨by omega, _, rfl, fun i ρ => ∃ t, ρ = [some (.d (.int x)), some (.d (.int n)), some (.d (.int (fallI x i))), t], ⟨none, rfl⟩, ?_, ?_⟩
  · rintro i y ρ hx ⟨t, rfl⟩
    obtain ⟨rfl, hi⟩ := rngD_get hx
    have hi : i < n := hi
    have e : (0 : Int) + (i : Nat) = (i : Nat) := by omega
    rw [e]
    refine ⟨mulOk (m * i + 1) m (fallI_small (by omega)) (by omega) ?_ (by omega) h2, ?_⟩
    · have : m * i ≤ m * n := Nat.mul_le_mul_left _ (by omega)
      omega
    · exact ⟨_, rfl⟩
  · rintro ρ ⟨t, rfl⟩
    rw [rngD_len]
    exact q
theorem fallI_fact : ∀ (n k : Nat), fallI ((n + k : Nat) : Int) n > 0
  | 0, _ => by show (0 : Int) < 1; decide
  | n + 1, k => by
    have h := fallI_fact n (k + 1)
    rw [show n + (k + 1) = n + 1 + k by omega] at h
    exact Int.mul_pos h (by omega)
/-- the degree -/
def FT.deg : FT → Nat
  | int _ => 0
  | x => 1
  | y => 1
  | add a b | sub a b => max a.deg b.deg
  | mul a b => a.deg + b.deg
  | pow a n => a.deg * n
theorem FT.deg_le : ∀ f : FT, f.deg ≤ f.e
  | int _ => Nat.zero_le _
  | x => Nat.le_refl _
  | y => Nat.le_refl _
  | add a b => by have := a.deg_le; have := b.deg_le; simp only [deg, e]; omega
  | sub a b => by have := a.deg_le; have := b.deg_le; simp only [deg, e]; omega
  | mul a b => by have := a.deg_le; have := b.deg_le; simp only [deg, e]; omega
  | pow a n => by
    simp only [deg, e]
    exact Nat.mul_le_mul a.deg_le (by omega)
def chainF (l : FT) : Nat → FT
  | 0 => .int 1
  | 1 => .sub l (.int 0)
  | n + 2 => .mul (chainF l (n + 1)) (.sub l (.int ((n + 1 : Nat))))
def isLetter (l : FT) : Prop := l = .x ∨ l = .y
theorem chainF_ok {l : FT} (hl : isLetter l) : ∀ {n : Nat}, n < 1000 → (chainF l n).lev ≤ n + 1 ∧ (chainF l n).e ≤ max 1 n ∧ (chainF l n).le 140 ∧ (chainF l n).deg ≤ n ∧ (chainF l n).sz 140 ≤ 400 * (n + 1)
  | 0, _ => ⟨Nat.le_refl _, Nat.le_refl _, (show (1 : Int).natAbs < 2 ^ 140 by decide), Nat.le_refl _, by show 140 + 3 ≤ 400 * (0 + 1); decide⟩
  | 1, _ => by rcases hl with rfl | rfl <;> exact ⟨by decide, by decide, ⟨trivial, (show (0 : Int).natAbs < 2 ^ 140 by decide)⟩, by decide, by decide⟩
  | n + 2, h => by
    obtain ⟨a, b, c, d, z⟩ := chainF_ok hl (n := n + 1) (by omega)
    have s : ((n + 1 : Nat) : Int).natAbs < 2 ^ 140 := by
      rw [Int.natAbs_natCast]; omega
    have ll : l.lev = 1 ∧ l.e = 1 ∧ l.le 140 ∧ l.deg = 1 ∧ l.sz 140 = 143 := by rcases hl with rfl | rfl <;> exact ⟨rfl, rfl, trivial, rfl, rfl⟩
    refine ⟨?_, ?_, ⟨c, ll.2.2.1, s⟩, ?_, ?_⟩
    · simp only [chainF, FT.lev]; omega
    · simp only [chainF, FT.e]; omega
    · simp only [chainF, FT.deg]; omega
    · simp only [chainF, FT.sz]; omega
def S_chain : FSpec := ⟨fun args Q => ∃ (l : FT) (n : Nat), args = [.d l.pd, .d (.int n)] ∧ isLetter l ∧ n ≤ 900 ∧ Q (.d (chainF l n).pd) []⟩
abbrev N_law_chain_f3d4 : List Str := ["letter", "many", "found", "k"]
def ir_law_chain_f3d4 : TSt :=
  (sSeq (sAsg 2 (fD (dC (.int 1))))
    (sSeq (sFor (iRg (aCons (.s 1) aNil)) (.nm 3) (sAsg 2 (fD (dIte (tVal (dBin cEq (.s 3) (.e (dC (.int 0))))) (dTup (aCons (.e (dC (.str "sub"))) (aCons (.e (dVar 0)) (aCons (.e (dVar 3)) aNil)))) (dTup (aCons (.e (dC (.str "mul"))) (aCons (.e (dVar 2)) (aCons (.e (dTup (aCons (.e (dC (.str "sub"))) (aCons (.e (dVar 0)) (aCons (.e (dVar 3)) aNil))))) aNil))))))))
    (sRetV 2)))
theorem sp_law_chain : ∀ args Q, S_chain.sp args Q → ir_law_chain_f3d4 (endsOf args Q) (rho0 N_law_chain_f3d4 args) := by
  rintro args Q ⟨l, n, rfl, hl, hn, q⟩
  refine ⟨by omega, _, rfl, fun i ρ => ∃ t, ρ = [some (.d l.pd), some (.d (.int n)), some (.d (chainF l i).pd), t], ⟨none, rfl⟩, ?_, ?_⟩
  · rintro i y ρ hx ⟨t, rfl⟩
    obtain ⟨rfl, hi⟩ := rngD_get hx
    refine ⟨fun h => ?_, fun h => ?_⟩
    · have z : (0 : Int) + (i : Nat) = 0 := of_decide_eq_true h
      have : i = 0 := by omega
      subst this
      exact ⟨_, rfl⟩
    · have z : ¬ (0 : Int) + (i : Nat) = 0 := of_decide_eq_false h
      obtain ⟨j, rfl⟩ : ∃ j, i = j + 1 := ⟨i - 1, by omega⟩
      have e : (0 : Int) + ((j + 1 : Nat) : Int) = ((j + 1 : Nat) : Int) := by omega
      rw [e]
      exact ⟨_, rfl⟩
  · rintro ρ ⟨t, rfl⟩
    rw [rngD_len]
    exact q
/-- what is drawn to be held against another: to be reckoned with, of degree at most 16 -/
def FT.ok2 (f : FT) : Prop := f.lev ≤ 17 ∧ f.e ≤ 20 ∧ f.le 140 ∧ f.deg ≤ 16 ∧ f.sz 140 ≤ 100000
def S_near : FSpec := ⟨fun args Q => ∃ (b : Nat) (dk : List PD) (f : FT) (c : Nat), args = [.ls (some 0) dk, .d f.pd, .d (.int c)] ∧ Dk (b + 8) dk ∧ (f.lev ≤ 4 ∧ f.e ≤ 8 ∧ f.le 140) ∧ 0 < c ∧ c ≤ 2 ^ 100 ∧
  ∀ (g : FT) dk', g.ok2 → Dk b dk' → Q (.d g.pd) [.ls (some 0) dk']⟩
abbrev N_law_near_025f : List Str := ["deck", "formula", "clock", "i", "j", "letters", "step", "more"]
def ir_law_near_025f (S_law_one_90da : FSpec) (S_law_draw_a51a : FSpec) (S_law_common_ae84 : FSpec) (S_law_falling_d92b : FSpec) (S_law_chain_f3d4 : FSpec) : TSt :=
  (sSeq (sAsg 3 (fCall S_law_one_90da (aCons (.s 0) (aCons (.e (dFz (fLst (aCons (.e (dFz (fCall S_law_draw_a51a (aCons (.s 0) (aCons (.e (dC (.int 5))) aNil))))) (aCons (.e (dFz (fCall S_law_draw_a51a (aCons (.s 0) (aCons (.e (dC (.int 13))) aNil))))) aNil))))) aNil))))
    (sSeq (sAsg 4 (fCall S_law_draw_a51a (aCons (.s 0) (aCons (.e (dBi bMin2 (aCons (.e (dC (.int 4))) (aCons (.e (dBin bSub (.e (dC (.int 15))) (.s 3))) aNil)))) aNil))))
    (sSeq (sAsg 5 (fCall S_law_one_90da (aCons (.s 0) (aCons (.e (dFz (fLst (aCons (.e (dC (.str "xy"))) (aCons (.e (dC (.str "yx"))) aNil))))) aNil))))
    (sSeq (sAsg 6 (fD (dBin bFdiv (.s 2) (.e (dFz (fCall S_law_common_ae84 (aCons (.e (dVar 2)) (aCons (.e (dBin bMulI (.e (dFz (fCall S_law_falling_d92b (aCons (.e (dVar 3)) (aCons (.e (dVar 3)) aNil))))) (.e (dFz (fCall S_law_falling_d92b (aCons (.e (dVar 4)) (aCons (.e (dVar 4)) aNil))))))) aNil))))))))
    (sSeq (sAsg 6 (fD (dBi bMax2 (aCons (.e (dC (.int 1))) (aCons (.e (dBin bAdd (.s 6) (.e (dFz (fCall S_law_one_90da (aCons (.s 0) (aCons (.e (dFz (fLst (aCons (.e (dC (.int 0))) (aCons (.e (dC (.int 0))) (aCons (.e (dC (.int 0))) (aCons (.e (dC (.int 1))) (aCons (.e (dNeg (.e (dC (.int 1))))) aNil)))))))) aNil))))))) aNil)))))
    (sSeq (sAsg 7 (fD (dTup (aCons (.e (dC (.str "mul"))) (aCons (.e (dFz (fCall S_law_chain_f3d4 (aCons (.e (dBin bIx (.s 5) (.e (dC (.int 0))))) (aCons (.e (dVar 3)) aNil))))) (aCons (.e (dFz (fCall S_law_chain_f3d4 (aCons (.e (dBin bIx (.s 5) (.e (dC (.int 1))))) (aCons (.e (dVar 4)) aNil))))) aNil))))))
    (sSeq (sAsg 7 (fD (dTup (aCons (.e (dC (.str "mul"))) (aCons (.e (dTup (aCons (.e (dC (.str "mul"))) (aCons (.e (dVar 6)) (aCons (.e (dFz (fCall S_law_one_90da (aCons (.s 0) (aCons (.e (dFz (fLst (aCons (.e (dC (.int 1))) (aCons (.e (dNeg (.e (dC (.int 1))))) (aCons (.e (dC (.int 2))) (aCons (.e (dC (.int 5))) aNil))))))) aNil))))) aNil))))) (aCons (.e (dVar 7)) aNil))))))
    (sRet (fCall S_law_one_90da (aCons (.s 0) (aCons (.e (dFz (fLst (aCons (.e (dTup (aCons (.e (dC (.str "add"))) (aCons (.e (dVar 1)) (aCons (.e (dVar 7)) aNil))))) (aCons (.e (dTup (aCons (.e (dC (.str "sub"))) (aCons (.e (dVar 1)) (aCons (.e (dVar 7)) aNil))))) (aCons (.e (dTup (aCons (.e (dC (.str "add"))) (aCons (.e (dVar 7)) (aCons (.e (dTup (aCons (.e (dC (.str "mul"))) (aCons (.e (dC (.int 1))) (aCons (.e (dVar 1)) aNil))))) aNil))))) aNil)))))) aNil)))))))))))
theorem sign1 : (PyData.str ⟨#[120]⟩ = FT.x.pd) ∧ (PyData.str ⟨#[121]⟩ = FT.y.pd) := ⟨congrArg PyData.str (by decide +kernel), congrArg PyData.str (by decide +kernel)⟩
theorem two_signs {z : PD} (h : z ∈ [PyData.str "xy", PyData.str "yx"]) : ∃ s : Str, z = .str s ∧ s.length ≤ sizeLine ∧ ∃ (c d : Nat) (l m : FT), atI s.cps.toList 0 = some c ∧ atI s.cps.toList 1 = some d ∧ PyData.str ⟨#[c]⟩ = l.pd ∧ PyData.str ⟨#[d]⟩ = m.pd ∧ isLetter l ∧ isLetter m := by
  simp only [List.mem_cons, List.not_mem_nil, or_false] at h
  rcases h with rfl | rfl
  · exact ⟨_, rfl, by rw [sizeLine_eq]; decide +kernel, 120, 121, .x, .y, by decide +kernel, by decide +kernel, sign1.1, sign1.2, .inl rfl, .inr rfl⟩
  · exact ⟨_, rfl, by rw [sizeLine_eq]; decide +kernel, 121, 120, .y, .x, by decide +kernel, by decide +kernel, sign1.2, sign1.1, .inr rfl, .inl rfl⟩
theorem sp_near : ∀ args Q, S_near.sp args Q → ir_law_near_025f S_one S_draw S_common S_falling S_chain (endsOf args Q) (rho0 N_law_near_025f args) := by
  rintro args Q ⟨b, dk, f, c, rfl, h, hf, c0, c1, q⟩
  refine ⟨rfl, b + 7, dk, 5, rfl, h, ⟨by decide, by decide⟩, fun r1 dk1 a0 a1 d1 => ?_⟩
  refine ⟨rfl, b + 6, dk1, 13, rfl, d1, ⟨by decide, by decide⟩, fun r2 dk2 b0 b1 d2 => ?_⟩
  refine ⟨rfl, b + 5, dk2, _, rfl, d2, ⟨Nat.succ_pos _, by show 2 < 2 ^ 60; decide⟩, fun zi dk3 hz d3 => ?_⟩
  have hzi : ∃ i : Nat, zi = .int i ∧ i ≤ 12 := by
    simp only [List.mem_cons, List.not_mem_nil, or_false] at hz
    rcases hz with rfl | rfl
    · exact ⟨r1.toNat, by rw [Int.toNat_of_nonneg a0]; rfl, by omega⟩
    · exact ⟨r2.toNat, by rw [Int.toNat_of_nonneg b0]; rfl, by omega⟩
  obtain ⟨i, rfl, hi⟩ := hzi
  have mn : (0 : Int) < (if (15 : Int) - ((i : Nat) : Int) < 4 then (15 : Int) - ((i : Nat) : Int) else 4) ∧ (if (15 : Int) - ((i : Nat) : Int) < 4 then (15 : Int) - ((i : Nat) : Int) else 4) ≤ 4 := by split <;> omega
  refine ⟨rfl, b + 4, dk3, _, rfl, d3, ⟨mn.1, log2_const (k := 10) (by omega)⟩, fun r3 dk4 e0 e1 d4 => ?_⟩
  have hj3 : r3 < 4 ∧ r3 < 15 - (i : Nat) ∨ r3 < 4 := by right; omega
  have hj : r3 < 4 := by omega
  have hij : (i : Int) + r3 < 16 := by omega
  obtain ⟨j, rfl⟩ : ∃ j : Nat, r3 = j := ⟨r3.toNat, by omega⟩
  refine ⟨rfl, b + 3, dk4, _, rfl, d4, ⟨Nat.succ_pos _, by show 2 < 2 ^ 60; decide⟩, fun zs dk5 hs d5 => ?_⟩
  obtain ⟨s, rfl, hsl, ca, cb, l, m, x0, x1, y0, y1, il, im⟩ := two_signs hs
  have fp : ∀ n : Nat, n ≤ 12 → 0 < fallI (n : Nat) n ∧ (fallI (n : Nat) n).natAbs < 2 ^ (5 * n + 1) := fun n hn => ⟨by have := fallI_fact n 0; simpa using this, fallI_small (by omega)⟩
  refine ⟨rfl, (i : Nat), i, 5, rfl, by omega, by decide, by omega, by omega, ?_⟩
  refine ⟨rfl, (j : Nat), j, 5, rfl, by omega, by decide, by omega, by omega, ?_⟩
  have fi := fp i hi
  have fj := fp j (by omega)
  refine ⟨mulOk (5 * i + 1) (5 * j + 1) fi.2 fj.2 (by omega) (by omega) (by omega), ?_⟩
  obtain ⟨N, hN⟩ : ∃ N : Nat, fallI (i : Nat) i * fallI (j : Nat) j = (N : Nat) := ⟨(fallI (i : Nat) i * fallI (j : Nat) j).toNat, by rw [Int.toNat_of_nonneg (Int.le_of_lt (Int.mul_pos fi.1 fj.1))]⟩
  refine ⟨rfl, c, N, by rw [← hN], ?_⟩
  have gp : 0 < Nat.gcd c N := Nat.gcd_pos_of_pos_left _ c0
  have gl : Nat.gcd c N ≤ c := Nat.le_of_dvd c0 (Nat.gcd_dvd_left _ _)
  refine ⟨⟨by omega, Nat.lt_trans (log2_const (i := ((Nat.gcd c N : Nat) : Int)) (k := 110) (by rw [Int.natAbs_natCast]; omega)) (by decide)⟩, ?_⟩
  refine ⟨rfl, b + 2, dk5, _, rfl, d5, ⟨Nat.succ_pos _, by show 5 < 2 ^ 60; decide⟩, fun zo dk6 ho d6 => ?_⟩
  have hzo : ∃ o : Int, zo = .int o ∧ -1 ≤ o ∧ o ≤ 1 := by
    have all : ∀ x ∈ [PyData.int 0, .int 0, .int 0, .int 1, .int (-1)], ∃ o : Int, x = .int o ∧ -1 ≤ o ∧ o ≤ 1 := by
      simp only [List.forall_mem_cons]
      exact ⟨⟨_, rfl, by decide, by decide⟩, ⟨_, rfl, by decide, by decide⟩, ⟨_, rfl, by decide, by decide⟩, ⟨_, rfl, by decide, by decide⟩, ⟨_, rfl, by decide, by decide⟩, fun x hx => by cases hx⟩
    exact all zo ho
  obtain ⟨o, rfl, o0, o1⟩ := hzo
  have dv : (0 : Int) ≤ (c : Int) / (Nat.gcd c N : Nat) ∧ (c : Int) / (Nat.gcd c N : Nat) ≤ c := ⟨Int.ediv_nonneg (by omega) (by omega), Int.ediv_le_self _ (by omega)⟩
  have st : (if (c : Int) / (Nat.gcd c N : Nat) + o > 1 then (c : Int) / (Nat.gcd c N : Nat) + o else 1).natAbs < 2 ^ 140 := by split <;> omega
  refine ⟨hsl, ca, x0, rfl, l, i, by rw [← y0], il, by omega, ?_⟩
  refine ⟨hsl, cb, x1, rfl, m, j, by rw [← y1], im, by omega, ?_⟩
  refine ⟨rfl, b + 1, dk6, _, rfl, d6, ⟨Nat.succ_pos _, by show 4 < 2 ^ 60; decide⟩, fun zt dk7 ht d7 => ?_⟩
  have hzt : ∃ o : Int, zt = .int o ∧ o.natAbs < 2 ^ 140 := by
    have all : ∀ x ∈ [PyData.int 1, .int (-1), .int 2, .int 5], ∃ o : Int, x = .int o ∧ o.natAbs < 2 ^ 140 := by
      simp only [List.forall_mem_cons]
      exact ⟨⟨_, rfl, by decide⟩, ⟨_, rfl, by decide⟩, ⟨_, rfl, by decide⟩, ⟨_, rfl, by decide⟩, fun x hx => by cases hx⟩
    exact all zt ht
  obtain ⟨t, rfl, ht'⟩ := hzt
  refine ⟨rfl, b, dk7, _, rfl, d7, ⟨Nat.succ_pos _, by show 3 < 2 ^ 60; decide⟩, fun z dk8 hz d8 => ?_⟩
  have ki := chainF_ok il (n := i) (by omega)
  have kj := chainF_ok im (n := j) (by omega)
  obtain ⟨w, hw⟩ : ∃ w, w = (if (c : Int) / (Nat.gcd c N : Nat) + o > 1 then (c : Int) / (Nat.gcd c N : Nat) + o else 1) := ⟨_, rfl⟩
  rw [← hw] at st
  have key : ∃ g : FT, z = g.pd ∧ g.ok2 := by
    have hz' : z ∈ [(FT.add f (.mul (.mul (.int w) (.int t)) (.mul (chainF l i) (chainF m j)))).pd, (FT.sub f (.mul (.mul (.int w) (.int t)) (.mul (chainF l i) (chainF m j)))).pd, (FT.add (.mul (.mul (.int w) (.int t)) (.mul (chainF l i) (chainF m j))) (.mul (.int 1) f)).pd] := by
      rw [hw]; exact hz
    have fd := f.deg_le
    have fz := f.sz_le (m := 140)
    have fw : (140 + 40) * 2 ^ f.lev ≤ (140 + 40) * 2 ^ 4 := Nat.mul_le_mul_left _ (Nat.pow_le_pow_right (by decide) hf.1)
    have k5 := ki.2.2.2.2
    have l5 := kj.2.2.2.2
    have all : ∀ x ∈ [(FT.add f (.mul (.mul (.int w) (.int t)) (.mul (chainF l i) (chainF m j)))).pd, (FT.sub f (.mul (.mul (.int w) (.int t)) (.mul (chainF l i) (chainF m j)))).pd, (FT.add (.mul (.mul (.int w) (.int t)) (.mul (chainF l i) (chainF m j))) (.mul (.int 1) f)).pd], ∃ g : FT, x = g.pd ∧ g.ok2 := by
      simp only [List.forall_mem_cons]
      refine ⟨⟨_, rfl, ?_, ?_, ⟨hf.2.2, ⟨st, ht'⟩, ki.2.2.1, kj.2.2.1⟩, ?_, ?_⟩, ⟨_, rfl, ?_, ?_, ⟨hf.2.2, ⟨st, ht'⟩, ki.2.2.1, kj.2.2.1⟩, ?_, ?_⟩, ⟨_, rfl, ?_, ?_, ⟨⟨⟨st, ht'⟩, ki.2.2.1, kj.2.2.1⟩, (by decide : (1 : Int).natAbs < 2 ^ 140), hf.2.2⟩, ?_, ?_⟩, fun x hx => by cases hx⟩
      all_goals simp only [FT.lev, FT.e, FT.deg, FT.sz]; omega
    exact all z hz'
  obtain ⟨g, rfl, hg⟩ := key
  exact q g dk8 hg d8
end DL
namespace DL
open PySem L2 PyProof.Rows
/-! formulas drawn: their integers have at most forty figures -/
def FT.in40 : FT → Prop
  | int i => i.natAbs < 10 ^ 40
  | add a b | sub a b | mul a b => a.in40 ∧ b.in40
  | pow a _ => a.in40
  | _ => True
def FT.leafB (yy : Bool) (f : FT) : Prop := f.lev = 1 ∧ f.e = 1 ∧ f.in40 ∧ (f.hasY = true → yy = true)
theorem lets_leafB {yy : Bool} {ls : List PD} {l : PD} (h : Lets yy ls) (hl : l ∈ ls) : ∃ f : FT, l = f.pd ∧ f.leafB yy := by
  rcases h.2.2 l hl with rfl | ⟨hy, rfl⟩
  · exact ⟨.x, rfl, rfl, rfl, trivial, nofun⟩
  · exact ⟨.y, rfl, rfl, rfl, trivial, fun _ => hy⟩
def S_leafB : FSpec := ⟨fun args Q => ∃ (b : Nat) (dk ls : List PD) (yy : Bool), args = [.ls (some 0) dk, .d (.list ls)] ∧ Dk (b + 8) dk ∧ Lets yy ls ∧ ∀ (f : FT) dk', f.leafB yy → Dk b dk' → Q (.d f.pd) [.ls (some 0) dk']⟩
def SmIB (x : PD) : Prop := ∃ i : Int, x = .int i ∧ i.natAbs < 10 ^ 40
theorem smIB {i : Int} (h : i.natAbs < 10 ^ 40) : SmIB (.int i) := ⟨i, rfl, h⟩
theorem sp_leafB : ∀ args Q, S_leafB.sp args Q → ir_law_leaf_a91b S_draw S_one (endsOf args Q) (rho0 N_law_leaf_a91b args) := by
  rintro args Q ⟨b, dk, ls, yy, rfl, h, hl, q⟩
  have g : (10 : Int) ^ (19 : Int).toNat = 10 ^ 19 := rfl
  refine ⟨powOk (k := 4) (m := 19) (by decide) (by decide) (by decide), rfl, b + 7, dk, _, rfl, h, ⟨by decide, by decide⟩, fun r1 dk1 a0 a1 d1 => ?_⟩
  rw [g] at a1
  refine ⟨powOk (k := 4) (m := 20) (by decide) (by decide) (by decide), mulOk 64 68 (by omega) (by decide), powOk (k := 4) (m := 19) (by decide) (by decide) (by decide), rfl, b + 6, dk1, _, rfl, d1, ⟨by decide, by decide⟩, fun r2 dk2 b0 b1 d2 => ?_⟩
  rw [g] at b1
  have far : (r1 * 10 ^ (20 : Int).toNat + r2).natAbs < 10 ^ 40 := by
    have e : (10 : Int) ^ (20 : Int).toNat = 100000000000000000000 := rfl
    rw [e]
    omega
  obtain ⟨w, hw⟩ : ∃ w, w = r1 * 10 ^ (20 : Int).toNat + r2 := ⟨_, rfl⟩
  rw [← hw] at far
  refine ⟨powOk (k := 4) (m := 40) (by decide) (by decide) (by decide), powOk (k := 4) (m := 40) (by decide) (by decide) (by decide), rfl, b + 5, dk2, _, rfl, d2, ⟨Nat.succ_pos _, by show 4 < 2 ^ 60; decide⟩, fun v dk3 hv d3 => ?_⟩
  rw [← hw] at hv
  have vs : SmIB v := by
    have all : ∀ x ∈ [PyData.int w, .int (-w), .int (10 ^ (40 : Int).toNat - 1), .int (1 - 10 ^ (40 : Int).toNat)], SmIB x := by
      simp only [List.forall_mem_cons]
      exact ⟨smIB far, smIB (by omega), smIB (by decide), smIB (by decide), fun x hx => by cases hx⟩
    exact all v hv
  obtain ⟨vi, rfl, hvi⟩ := vs
  refine ⟨rfl, b + 4, dk3, _, rfl, d3, ⟨by decide, by decide⟩, fun r3 dk4 c0 c1 d4 => ?_⟩
  refine ⟨rfl, b + 3, dk4, _, rfl, d4, ⟨Nat.succ_pos _, by show 10 < 2 ^ 60; decide⟩, fun s dk5 hs d5 => ?_⟩
  have ss : SmIB s := by
    have all : ∀ x ∈ [PyData.int 0, .int 1, .int (-1), .int 2, .int 3, .int (-5), .int 6, .int 12, .int (r3 - 99), .int vi], SmIB x := by
      simp only [List.forall_mem_cons]
      exact ⟨smIB (by decide), smIB (by decide), smIB (by decide), smIB (by decide), smIB (by decide), smIB (by decide), smIB (by decide), smIB (by decide), smIB (by omega), smIB hvi, fun x hx => by cases hx⟩
    exact all s hs
  obtain ⟨si, rfl, hsi⟩ := ss
  refine ⟨rfl, b + 2, dk5, ls, rfl, d5, ⟨hl.1, by have := hl.2.1; omega⟩, fun l1 dk6 hl1 d6 => ?_⟩
  refine ⟨rfl, b + 1, dk6, ls, rfl, d6, ⟨hl.1, by have := hl.2.1; omega⟩, fun l2 dk7 hl2 d7 => ?_⟩
  refine ⟨rfl, b, dk7, _, rfl, d7, ⟨by show 0 < 3; decide, by show 3 < 2 ^ 60; decide⟩, fun z dk8 hz d8 => ?_⟩
  have fin : ∃ f : FT, z = f.pd ∧ f.leafB yy := by
    have all : ∀ x ∈ [PyData.int si, l1, l2], ∃ f : FT, x = f.pd ∧ f.leafB yy := by
      simp only [List.forall_mem_cons]
      exact ⟨⟨.int si, rfl, rfl, rfl, hsi, nofun⟩, lets_leafB hl hl1, lets_leafB hl hl2, fun x hx => by cases hx⟩
    exact all z hz
  obtain ⟨f, rfl, hf⟩ := fin
  exact q f dk8 hf d8
def FT.drawnB (yy : Bool) (room deep : Nat) (f : FT) : Prop := f.lev ≤ deep ∧ f.e ≤ room ∧ f.in40 ∧ (f.hasY = true → yy = true)
def S_formulaB (d : Nat) : FSpec := ⟨fun args Q => ∃ (b : Nat) (dk ls : List PD) (yy : Bool) (room deep : Nat), args = [.ls (some 0) dk, .d (.list ls), .d (.int room), .d (.int deep)] ∧ Dk (b + cst d) dk ∧ Lets yy ls ∧ 1 ≤ room ∧ room ≤ 1000 ∧ 1 ≤ deep ∧ deep ≤ d ∧
  ∀ (f : FT) dk', f.drawnB yy room deep → Dk b dk' → Q (.d f.pd) [.ls (some 0) dk']⟩
theorem S_formulaB0 : ∀ args Q, ¬ (S_formulaB 0).sp args Q := by
  rintro args Q ⟨b, dk, ls, yy, room, deep, _, _, _, _, _, h, h2, _⟩
  omega
theorem sp_formulaB (d : Nat) : ∀ args Q, (S_formulaB (d + 1)).sp args Q → ir_law_formula_6b2b S_draw S_leafB (S_formulaB d) (endsOf args Q) (rho0 N_law_formula_6b2b args) := by
  rintro args Q ⟨b, dk, ls, yy, room, deep, rfl, h, hl, r1, r2, p1, p2, q⟩
  have hc : cst (d + 1) = 2 * cst d + 3 := rfl
  have c8 := cst_ge d
  refine ⟨rfl, b + 2 * cst d + 2, dk, 9, rfl, h.mono (by omega), ⟨by decide, by decide⟩, fun way dk1 w0 w1 d1 => ?_⟩
  have leaf : ∀ {ρ : En} {D : DE}, D.rt = retOk [.ls (some 0) dk, .d (.list ls), .d (.int room), .d (.int deep)] Q → ρ = [some (.ls (some 0) dk1), some (.d (.list ls)), some (.d (.int room)), some (.d (.int deep)), some (.d (.int way)), none, none, none, none] →
      sRet (fCall S_leafB (aCons (.s 0) (aCons (.e (dVar 1)) aNil))) D ρ := by
    rintro ρ D hD rfl
    refine ⟨rfl, b, dk1, ls, yy, rfl, d1.mono (by omega), hl, fun f dk2 hf d2 => ?_⟩
    rw [hD]
    exact q f dk2 ⟨by rw [hf.1]; exact p1, by rw [hf.2.1]; exact r1, hf.2.2.1, hf.2.2.2⟩ d2
  refine ⟨fun _ => ⟨fun _ => leaf rfl rfl, nofun⟩, fun g1 => ⟨fun _ => ⟨fun _ => leaf rfl rfl, nofun⟩, fun g2 => ⟨fun g3 => ⟨rfl, _, rfl, rfl, fun _ => leaf rfl rfl, fun g4 => ?_⟩, fun g3 => ⟨nofun, fun _ => ?_⟩⟩⟩⟩
  all_goals
    have dp : 2 ≤ deep := by
      have : ¬ ((deep : Int) < 2) := of_decide_eq_false g1
      omega
    have wy : 2 ≤ way := by
      have : ¬ (way < 2) := of_decide_eq_false g2
      omega
    have key : 2 ≤ room ∨ (way ≠ 5 ∧ way ≠ 6 ∧ way ≠ 7) := by
      first
        | (left; have : ¬ ((room : Int) < 2) := of_decide_eq_false g3; omega)
        | (right
           have z : (PyData.eqv (.int 5) (.int way) || (PyData.eqv (.int 6) (.int way) || (PyData.eqv (.int 7) (.int way) || false))) = false := g4
           simp [PyData.eqv] at z
           omega)
    clear g1 g2 g3
    obtain ⟨dp', rfl⟩ : ∃ n, deep = n + 1 := ⟨deep - 1, by omega⟩
    have ed : ((dp' + 1 : Nat) : Int) - 1 = (dp' : Nat) := by omega
    refine ⟨fun g5 => ?_, fun g5 => ⟨fun g6 => ?_, fun g6 => ?_⟩⟩
    · have w5 : way < 5 := of_decide_eq_true g5
      -- a sum or a difference
      have word : ∃ x, atI [PyData.str "add", .str "sub", .str "add"] (way - 2) = some x ∧ (x = .str "add" ∨ x = .str "sub") := by
        obtain ⟨x, e1, e2⟩ := atI_some (xs := [PyData.str "add", .str "sub", .str "add"]) (i := way - 2) (by omega) (by show way - 2 < 3; omega)
        refine ⟨x, e1, ?_⟩
        have := List.mem_of_getElem? e2
        simp only [List.mem_cons, List.not_mem_nil, or_false] at this
        rcases this with h | h | h
        · exact .inl h
        · exact .inr h
        · exact .inl h
      obtain ⟨x, ex, hx⟩ := word
      refine ⟨x, ex, rfl, b + cst d, dk1, ls, yy, room, dp', by rw [← ed]; rfl, d1.mono (by omega), hl, r1, r2, by omega, by omega, fun f dk2 hf d2 => ?_⟩
      refine ⟨rfl, b, dk2, ls, yy, room, dp', by rw [← ed]; rfl, d2, hl, r1, r2, by omega, by omega, fun g dk3 hg d3 => ?_⟩
      obtain ⟨f1, f2, f3, f4⟩ := hf
      obtain ⟨g1, g2, g3, g4⟩ := hg
      rcases hx with rfl | rfl
      · exact q (.add f g) dk3 ⟨by simp only [FT.lev]; omega, by simp only [FT.e]; omega, ⟨f3, g3⟩, by simp only [FT.hasY, Bool.or_eq_true]; exact fun h => h.elim f4 g4⟩ d3
      · exact q (.sub f g) dk3 ⟨by simp only [FT.lev]; omega, by simp only [FT.e]; omega, ⟨f3, g3⟩, by simp only [FT.hasY, Bool.or_eq_true]; exact fun h => h.elim f4 g4⟩ d3
    · -- a power
      refine ⟨rfl, b + 2 * cst d + 1, dk1, _, rfl, d1.mono (by omega), ⟨by omega, ?_⟩, fun r dk2 h0 h1 d2 => ?_⟩
      · exact Nat.lt_of_lt_of_le (log2_lt (k := 20) (by omega) (by decide)) (by decide)
      obtain ⟨n, rfl⟩ : ∃ n : Nat, r = n := ⟨r.toNat, by omega⟩
      have em : (if (n : Int) > 1 then (n : Int) else 1) = ((max 1 n : Nat) : Int) := by split <;> omega
      have er : (room : Int) / (if (n : Int) > 1 then (n : Int) else 1) = ((room / max 1 n : Nat) : Int) := by rw [em, Int.natCast_ediv]
      refine ⟨⟨by rw [em]; omega, ?_⟩, rfl, b, dk2, ls, yy, room / max 1 n, dp', by rw [← ed, ← er]; rfl, d2.mono (by omega), hl, ?_, Nat.le_trans (Nat.div_le_self _ _) r2, by omega, by omega, fun f dk3 hf d3 => ?_⟩
      · rw [em, Int.natAbs_natCast]
        exact Nat.lt_of_lt_of_le (log2_lt (i := ((max 1 n : Nat) : Int)) (k := 20) (by omega) (by decide)) (by decide)
      · exact Nat.div_pos (by omega) (by omega)
      · obtain ⟨f1, f2, f3, f4⟩ := hf
        refine q (.pow f n) dk3 ⟨by simp only [FT.lev]; omega, ?_, f3, f4⟩ d3
        simp only [FT.e]
        exact Nat.le_trans (Nat.mul_le_mul_right _ f2) (Nat.div_mul_le_self _ _)
    · -- a product
      have w5 : ¬ way < 5 := of_decide_eq_false g5
      have w8 : ¬ way = 8 := of_decide_eq_false g6
      have rm : 2 ≤ room := by omega
      refine ⟨rfl, b + 2 * cst d + 1, dk1, _, rfl, d1.mono (by omega), ⟨by omega, ?_⟩, fun r dk2 h0 h1 d2 => ?_⟩
      · exact Nat.lt_of_lt_of_le (log2_lt (k := 20) (by omega) (by decide)) (by decide)
      obtain ⟨n, rfl⟩ : ∃ n : Nat, r = n := ⟨r.toNat, by omega⟩
      have e1 : 1 + (n : Int) = ((1 + n : Nat) : Int) := by omega
      have e2 : (room : Int) - (1 + (n : Int)) = ((room - (1 + n) : Nat) : Int) := by omega
      refine ⟨rfl, b + cst d, dk2, ls, yy, 1 + n, dp', by rw [← ed, ← e1]; rfl, d2.mono (by omega), hl, by omega, by omega, by omega, by omega, fun f dk3 hf d3 => ?_⟩
      refine ⟨rfl, b, dk3, ls, yy, room - (1 + n), dp', by rw [← ed, ← e2]; rfl, d3, hl, by omega, by omega, by omega, by omega, fun g dk4 hg d4 => ?_⟩
      obtain ⟨f1, f2, f3, f4⟩ := hf
      obtain ⟨g1, g2, g3, g4⟩ := hg
      exact q (.mul f g) dk4 ⟨by simp only [FT.lev]; omega, by simp only [FT.e]; omega, ⟨f3, g3⟩, by simp only [FT.hasY, Bool.or_eq_true]; exact fun h => h.elim f4 g4⟩ d4
theorem FT.in40.le : ∀ {f : FT}, f.in40 → f.le 140
  | int i, h => Nat.lt_of_lt_of_le h (by decide)
  | x, _ => trivial
  | y, _ => trivial
  | add _ _, h => ⟨in40.le h.1, in40.le h.2⟩
  | sub _ _, h => ⟨in40.le h.1, in40.le h.2⟩
  | mul _ _, h => ⟨in40.le h.1, in40.le h.2⟩
  | pow a _, h => in40.le (f := a) h
theorem FT.drawnB.drawn {yy : Bool} {room deep : Nat} {f : FT} (h : f.drawnB yy room deep) : f.drawn yy 140 room deep := ⟨h.1, h.2.1, h.2.2.1.le, h.2.2.2⟩
end DL
namespace DL
open PySem L2 PyProof.Rows
/-! differences of formulas -/
theorem fall_shift (x : Int) : ∀ n : Nat, fallI (x + 1) (n + 1) = (x + 1) * fallI x n
  | 0 => by simp [fallI]
  | n + 1 => by
    rw [fallI, fall_shift x n, fallI]
    have : ((n + 1 : Nat) : Int) = (n : Int) + 1 := by omega
    rw [this]
    grind
theorem fall_diff (x : Int) (n : Nat) : fallI (x + 1) (n + 1) - fallI x (n + 1) = ((n : Int) + 1) * fallI x n := by
  rw [fall_shift, fallI]
  grind
theorem fall_zero : ∀ n : Nat, fallI 0 (n + 1) = 0
  | 0 => by simp [fallI]
  | n + 1 => by rw [fallI, fall_zero n, Int.zero_mul]
theorem fall_self_pos (n : Nat) : 0 < fallI (n : Nat) n := by have := fallI_fact n 0; simpa using this
theorem fall_over : ∀ {i k : Nat}, i < k → fallI (i : Nat) k = 0
  | i, k + 1, h => by
    rw [fallI]
    by_cases e : i = k
    · subst e; rw [Int.sub_self, Int.mul_zero]
    · rw [fall_over (i := i) (k := k) (by omega), Int.zero_mul]
abbrev F2I := Int → Int → Int
def dX (f : F2I) : F2I := fun x y => f (x + 1) y - f x y
def dY (f : F2I) : F2I := fun x y => f x (y + 1) - f x y
def itX : Nat → F2I → F2I
  | 0, f => f
  | n + 1, f => dX (itX n f)
def itY : Nat → F2I → F2I
  | 0, f => f
  | n + 1, f => dY (itY n f)
def dd (i j : Nat) (f : F2I) : Int := itX i (itY j f) 0 0
def addF (f g : F2I) : F2I := fun x y => f x y + g x y
theorem itX_add (f g : F2I) : ∀ n, itX n (addF f g) = addF (itX n f) (itX n g)
  | 0 => rfl
  | n + 1 => by
    rw [itX, itX_add f g n, itX, itX]
    funext x y
    simp only [dX, addF]
    omega
theorem itY_add (f g : F2I) : ∀ n, itY n (addF f g) = addF (itY n f) (itY n g)
  | 0 => rfl
  | n + 1 => by
    rw [itY, itY_add f g n, itY, itY]
    funext x y
    simp only [dY, addF]
    omega
theorem dd_add (i j : Nat) (f g : F2I) : dd i j (addF f g) = dd i j f + dd i j g := by
  unfold dd
  rw [itY_add, itX_add]
  rfl
def trm (c : Int) (i j : Nat) : F2I := fun x y => c * fallI x i * fallI y j
theorem itX_trm (c : Int) (i j : Nat) : ∀ k, itX k (trm c i j) = trm (c * fallI (i : Nat) k) (i - k) j
  | 0 => by simp [itX, fallI]
  | k + 1 => by
    rw [itX, itX_trm c i j k]
    funext x y
    simp only [dX, trm, fallI]
    by_cases h : k < i
    · obtain ⟨m, rfl⟩ : ∃ m, i = k + 1 + m := ⟨i - k - 1, by omega⟩
      rw [show k + 1 + m - k = m + 1 by omega, show k + 1 + m - (k + 1) = m by omega]
      have d := fall_diff x m
      have e : (((k + 1 + m : Nat) : Int) - (k : Nat)) = (m : Int) + 1 := by omega
      rw [e]
      grind
    · rw [show i - k = 0 by omega, show i - (k + 1) = 0 by omega]
      have z : fallI (i : Nat) k * ((i : Nat) - (k : Nat) : Int) = 0 := by
        by_cases e : i = k
        · subst e; rw [Int.sub_self, Int.mul_zero]
        · rw [fall_over (by omega), Int.zero_mul]
      rw [z]
      simp [fallI]
theorem itY_trm (c : Int) (i j : Nat) : ∀ k, itY k (trm c i j) = trm (c * fallI (j : Nat) k) i (j - k)
  | 0 => by simp [itY, fallI]
  | k + 1 => by
    rw [itY, itY_trm c i j k]
    funext x y
    simp only [dY, trm, fallI]
    by_cases h : k < j
    · obtain ⟨m, rfl⟩ : ∃ m, j = k + 1 + m := ⟨j - k - 1, by omega⟩
      rw [show k + 1 + m - k = m + 1 by omega, show k + 1 + m - (k + 1) = m by omega]
      have d := fall_diff y m
      have e : (((k + 1 + m : Nat) : Int) - (k : Nat)) = (m : Int) + 1 := by omega
      rw [e]
      grind
    · rw [show j - k = 0 by omega, show j - (k + 1) = 0 by omega]
      have z : fallI (j : Nat) k * ((j : Nat) - (k : Nat) : Int) = 0 := by
        by_cases e : j = k
        · subst e; rw [Int.sub_self, Int.mul_zero]
        · rw [fall_over (by omega), Int.zero_mul]
      rw [z]
      simp [fallI]
theorem dd_trm (c : Int) (i j k l : Nat) : dd k l (trm c i j) = if k = i ∧ l = j then c * (fallI (i : Nat) i * fallI (j : Nat) j) else 0 := by
  unfold dd
  rw [itY_trm, itX_trm]
  simp only [trm]
  by_cases h1 : k = i
  · by_cases h2 : l = j
    · subst h1; subst h2
      rw [if_pos ⟨rfl, rfl⟩, Nat.sub_self, Nat.sub_self]
      simp only [fallI]
      grind
    · rw [if_neg fun z => h2 z.2]
      by_cases h3 : l < j
      · obtain ⟨m, e⟩ : ∃ m, j - l = m + 1 := ⟨j - l - 1, by omega⟩
        rw [e, fall_zero, Int.mul_zero]
      · rw [fall_over (i := j) (k := l) (by omega)]
        simp
  · rw [if_neg fun z => h1 z.1]
    by_cases h3 : k < i
    · obtain ⟨m, e⟩ : ∃ m, i - k = m + 1 := ⟨i - k - 1, by omega⟩
      rw [e, fall_zero]
      simp
    · rw [fall_over (i := i) (k := k) (by omega)]
      simp
/-- sums of falling products of a degree of at most d -/
inductive Pol (d : Nat) : F2I → Prop
  | trm (c : Int) (i j : Nat) : i + j ≤ d → Pol d (trm c i j)
  | add {f g : F2I} : Pol d f → Pol d g → Pol d (addF f g)
theorem Pol.mono {d e : Nat} {f : F2I} (h : Pol d f) (he : d ≤ e) : Pol e f := by
  induction h with
  | trm c i j h => exact .trm c i j (by omega)
  | add _ _ a b => exact .add a b
theorem Pol.mulX {d : Nat} {f : F2I} (h : Pol d f) (a : Int) : Pol (d + 1) (fun x y => f x y * (x - a)) := by
  induction h with
  | trm c i j h =>
    have e : (fun x y => DL.trm c i j x y * (x - a)) = addF (DL.trm c (i + 1) j) (DL.trm (c * ((i : Int) - a)) i j) := by
      funext x y
      simp only [DL.trm, addF, fallI]
      grind
    rw [e]
    exact .add (.trm _ _ _ (by omega)) (.trm _ _ _ (by omega))
  | @add f g _ _ p q =>
    have e : (fun x y => addF f g x y * (x - a)) = addF (fun x y => f x y * (x - a)) (fun x y => g x y * (x - a)) := by
      funext x y
      simp only [addF]
      grind
    rw [e]
    exact .add p q
theorem Pol.mulY {d : Nat} {f : F2I} (h : Pol d f) (a : Int) : Pol (d + 1) (fun x y => f x y * (y - a)) := by
  induction h with
  | trm c i j h =>
    have e : (fun x y => DL.trm c i j x y * (y - a)) = addF (DL.trm c i (j + 1)) (DL.trm (c * ((j : Int) - a)) i j) := by
      funext x y
      simp only [DL.trm, addF, fallI]
      grind
    rw [e]
    exact .add (.trm _ _ _ (by omega)) (.trm _ _ _ (by omega))
  | @add f g _ _ p q =>
    have e : (fun x y => addF f g x y * (y - a)) = addF (fun x y => f x y * (y - a)) (fun x y => g x y * (y - a)) := by
      funext x y
      simp only [addF]
      grind
    rw [e]
    exact .add p q
theorem Pol.mulC {d : Nat} {f : F2I} (h : Pol d f) (a : Int) : Pol d (fun x y => f x y * a) := by
  induction h with
  | trm c i j h =>
    have e : (fun x y => DL.trm c i j x y * a) = DL.trm (c * a) i j := by
      funext x y
      simp only [DL.trm]
      grind
    rw [e]
    exact .trm _ _ _ h
  | @add f g _ _ p q =>
    have e : (fun x y => addF f g x y * a) = addF (fun x y => f x y * a) (fun x y => g x y * a) := by
      funext x y
      simp only [addF]
      grind
    rw [e]
    exact .add p q
theorem Pol.mulFX {d : Nat} {f : F2I} (h : Pol d f) : ∀ n : Nat, Pol (d + n) (fun x y => f x y * fallI x n)
  | 0 => by
    have e : (fun x y => f x y * fallI x 0) = f := by funext x y; simp [fallI]
    rw [e]; exact h
  | n + 1 => by
    have e : (fun x y => f x y * fallI x (n + 1)) = fun x y => (f x y * fallI x n) * (x - (n : Nat)) := by funext x y; rw [fallI, Int.mul_assoc]
    rw [e]
    exact (Pol.mulFX h n).mulX _
theorem Pol.mulFY {d : Nat} {f : F2I} (h : Pol d f) : ∀ n : Nat, Pol (d + n) (fun x y => f x y * fallI y n)
  | 0 => by
    have e : (fun x y => f x y * fallI y 0) = f := by funext x y; simp [fallI]
    rw [e]; exact h
  | n + 1 => by
    have e : (fun x y => f x y * fallI y (n + 1)) = fun x y => (f x y * fallI y n) * (y - (n : Nat)) := by funext x y; rw [fallI, Int.mul_assoc]
    rw [e]
    exact (Pol.mulFY h n).mulY _
theorem Pol.mul {d e : Nat} {f g : F2I} (hf : Pol d f) (hg : Pol e g) : Pol (d + e) (fun x y => f x y * g x y) := by
  induction hg with
  | trm c i j h =>
    have q : (fun x y => f x y * DL.trm c i j x y) = fun x y => (f x y * c * fallI x i) * fallI y j := by
      funext x y
      simp only [DL.trm]
      grind
    rw [q]
    exact (((hf.mulC c).mulFX i).mulFY j).mono (by omega)
  | @add g1 g2 _ _ p q =>
    have w : (fun x y => f x y * addF g1 g2 x y) = addF (fun x y => f x y * g1 x y) (fun x y => f x y * g2 x y) := by
      funext x y
      simp only [addF]
      grind
    rw [w]
    exact .add p q
theorem Pol.const (c : Int) : Pol 0 (fun _ _ => c) := by
  have e : (fun _ _ => c : F2I) = DL.trm c 0 0 := by funext x y; simp [DL.trm, fallI]
  rw [e]; exact .trm _ _ _ (by decide)
theorem Pol.pow {d : Nat} {f : F2I} (h : Pol d f) : ∀ n : Nat, Pol (d * n) (fun x y => f x y ^ n)
  | 0 => by
    have e : (fun x y => f x y ^ 0) = fun _ _ => (1 : Int) := by funext x y; rw [Int.pow_zero]
    rw [e, Nat.mul_zero]; exact .const 1
  | n + 1 => by
    have e : (fun x y => f x y ^ (n + 1)) = fun x y => f x y ^ n * f x y := by funext x y; rw [Int.pow_succ]
    rw [e, Nat.mul_succ]
    exact (Pol.pow h n).mul h
theorem FT.pol : ∀ f : FT, Pol f.deg (fun u v => f.val u v)
  | int i => Pol.const i
  | x => by
    have e : (fun u v => FT.x.val u v) = trm 1 1 0 := by funext u v; simp [val, trm, fallI]
    rw [e]; exact .trm _ _ _ (by decide)
  | y => by
    have e : (fun u v => FT.y.val u v) = trm 1 0 1 := by funext u v; simp [val, trm, fallI]
    rw [e]; exact .trm _ _ _ (by decide)
  | add a b => .add (a.pol.mono (Nat.le_max_left _ _)) (b.pol.mono (Nat.le_max_right _ _))
  | sub a b => by
    have e : (fun u v => (sub a b).val u v) = addF (fun u v => a.val u v) (fun u v => b.val u v * (-1)) := by
      funext u v
      simp only [val, addF]
      omega
    rw [e]
    exact .add (a.pol.mono (Nat.le_max_left _ _)) ((b.pol.mulC (-1)).mono (Nat.le_max_right _ _))
  | mul a b => a.pol.mul b.pol
  | pow a n => a.pol.pow n
/-! ### what differences tell -/
def fac2 (i j : Nat) : Int := fallI (i : Nat) i * fallI (j : Nat) j
theorem fac2_pos (i j : Nat) : 0 < fac2 i j := Int.mul_pos (fall_self_pos i) (fall_self_pos j)
theorem Pol.dvd {d : Nat} {f : F2I} (h : Pol d f) (i j : Nat) : fac2 i j ∣ dd i j f := by
  induction h with
  | trm c a b _ =>
    rw [dd_trm]
    split
    · rename_i e; obtain ⟨rfl, rfl⟩ := e; exact ⟨c, by rw [Int.mul_comm]; rfl⟩
    · exact Int.dvd_zero _
  | add _ _ p q => rw [dd_add]; exact Int.dvd_add p q
theorem Pol.zero {d : Nat} {f : F2I} (h : Pol d f) {i j : Nat} (hd : d < i + j) : dd i j f = 0 := by
  induction h with
  | trm c a b hab =>
    rw [dd_trm, if_neg]
    rintro ⟨rfl, rfl⟩
    omega
  | add _ _ p q => rw [dd_add, p, q]; rfl
/-- the row's number -/
def cof (f : F2I) (i j : Nat) : Int := dd i j f / fac2 i j
theorem cof_add {d : Nat} {f g : F2I} (hf : Pol d f) (hg : Pol d g) (i j : Nat) : cof (addF f g) i j = cof f i j + cof g i j := by
  unfold cof
  rw [dd_add, Int.add_ediv_of_dvd_left (hf.dvd i j)]
theorem cof_trm (c : Int) (a b i j : Nat) : cof (trm c a b) i j = if i = a ∧ j = b then c else 0 := by
  unfold cof
  rw [dd_trm]
  split
  · rename_i e; obtain ⟨rfl, rfl⟩ := e
    exact Int.mul_ediv_cancel _ (Int.ne_of_gt (fac2_pos i j))
  · exact Int.zero_ediv _
def sumN : Nat → (Nat → Int) → Int
  | 0, _ => 0
  | n + 1, g => sumN n g + g n
theorem sumN_add (f g : Nat → Int) : ∀ n, sumN n (fun i => f i + g i) = sumN n f + sumN n g
  | 0 => rfl
  | n + 1 => by rw [sumN, sumN_add f g n, sumN, sumN]; omega
theorem sumN_zero {f : Nat → Int} : ∀ {n : Nat}, (∀ i, i < n → f i = 0) → sumN n f = 0
  | 0, _ => rfl
  | n + 1, h => by rw [sumN, sumN_zero fun i hi => h i (by omega), h n (by omega)]; rfl
theorem sumN_congr {f g : Nat → Int} : ∀ {n : Nat}, (∀ i, i < n → f i = g i) → sumN n f = sumN n g
  | 0, _ => rfl
  | n + 1, h => by rw [sumN, sumN, sumN_congr fun i hi => h i (by omega), h n (by omega)]
theorem sumN_one {f : Nat → Int} {k : Nat} : ∀ {n : Nat}, k < n → (∀ i, i ≠ k → f i = 0) → sumN n f = f k
  | n + 1, h, z => by
    rw [sumN]
    by_cases e : k = n
    · subst e; rw [sumN_zero fun i hi => z i (by omega), Int.zero_add]
    · rw [sumN_one (n := n) (by omega) z, z n (by omega), Int.add_zero]
/-- the whole from its rows -/
theorem Pol.whole {d N : Nat} {f : F2I} (h : Pol d f) (hN : d < N) (x y : Int) : f x y = sumN N fun i => sumN N fun j => cof f i j * fallI x i * fallI y j := by
  induction h with
  | trm c a b hab =>
    rw [sumN_one (k := a) (by omega)]
    · rw [sumN_one (k := b) (by omega)]
      · rw [cof_trm, if_pos ⟨rfl, rfl⟩]; rfl
      · intro j hj; rw [cof_trm, if_neg fun z => hj z.2, Int.zero_mul, Int.zero_mul]
    · intro i hi
      exact sumN_zero fun j _ => by rw [cof_trm, if_neg fun z => hi z.1, Int.zero_mul, Int.zero_mul]
  | @add f g hf hg p q =>
    have e : (fun i => sumN N fun j => cof (addF f g) i j * fallI x i * fallI y j) = fun i => (sumN N fun j => cof f i j * fallI x i * fallI y j) + sumN N fun j => cof g i j * fallI x i * fallI y j := by
      funext i
      rw [← sumN_add]
      exact sumN_congr fun j _ => by rw [cof_add hf hg]; grind
    rw [e, sumN_add, ← p, ← q]
    rfl
end DL
namespace DL
open PySem L2 PyProof.Rows
/-! the program's differences, rows -/
theorem fall_fact (n : Nat) : fallI ((n + 1 : Nat) : Int) (n + 1) = ((n + 1 : Nat) : Int) * fallI (n : Nat) n := by
  have := fall_shift (n : Int) n
  rw [show ((n + 1 : Nat) : Int) = (n : Int) + 1 by omega]
  exact this
theorem fact_small {n : Nat} (h : n ≤ 1000) : (fallI (n : Nat) n).natAbs < 2 ^ (11 * n + 1) := fallI_small (by omega)
def S_factorial : FSpec := ⟨fun args Q => ∃ n : Nat, args = [.d (.int n)] ∧ n ≤ 1000 ∧ Q (.d (.int (fallI (n : Nat) n))) []⟩
abbrev N_factorial : List Str := ["number", "found", "k"]
def ir_factorial : TSt :=
  (sSeq (sAsg 1 (fD (dC (.int 1))))
    (sSeq (sFor (iRg (aCons (.e (dC (.int 2))) (aCons (.e (dBin bAdd (.s 0) (.e (dC (.int 1))))) aNil))) (.nm 2) (sAsg 1 (fD (dBin bMulI (.s 1) (.s 2)))))
    (sRetV 1)))
theorem sp_factorial : ∀ args Q, S_factorial.sp args Q → ir_factorial (endsOf args Q) (rho0 N_factorial args) := by
  rintro args Q ⟨n, rfl, hn, q⟩
  refine ⟨⟨by decide, by decide, by omega, by omega⟩, _, rfl, fun i ρ => ∃ t, ρ = [some (.d (.int n)), some (.d (.int (fallI ((i + 1 : Nat) : Int) (i + 1)))), t], ⟨none, rfl⟩, ?_, ?_⟩
  · rintro i y ρ hx ⟨t, rfl⟩
    obtain ⟨rfl, hi⟩ := rngD_get hx
    have hi : i < ((n : Int) + 1 - 2).toNat := hi
    have e : (2 : Int) + (i : Nat) = ((i + 1 + 1 : Nat) : Int) := by omega
    rw [e]
    refine ⟨mulOk (11 * (i + 1) + 1) 20 (fact_small (by omega)) (by omega) (by omega) (by omega) (by decide), ?_⟩
    refine ⟨some (.d (.int ((i + 1 + 1 : Nat) : Int))), ?_⟩
    rw [fall_fact (i + 1), Int.mul_comm]
    rfl
  · rintro ρ ⟨t, rfl⟩
    have el : (rngD 2 ((n : Int) + 1 - 2).toNat).length = n - 1 := by rw [rngD_len]; omega
    rw [el]
    have ev : fallI ((n - 1 + 1 : Nat) : Int) (n - 1 + 1) = fallI (n : Nat) n := by
      cases n with
      | zero => decide
      | succ n => rfl
    rw [ev]
    exact q
abbrev N_neighbours : List Str := ["x", "many", "found", "k"]
def ir_neighbours : TSt :=
  (sSeq (sAsg 2 (fD (dC (.int 1))))
    (sSeq (sFor (iRg (aCons (.s 1) aNil)) (.nm 3) (sAsg 2 (fD (dBin bMulI (.s 2) (.e (dBin bSub (.s 0) (.s 3)))))))
    (sRetV 2)))
theorem sp_neighbours : ∀ args Q, S_falling.sp args Q → ir_neighbours (endsOf args Q) (rho0 N_neighbours args) := sp_law_falling
/-- one row of differences -/
def stepL (ns : List Int) : List Int := List.zipWith (fun a b => b - a) ns ns.tail
def diffsF : Nat → List Int → List Int
  | 0, _ => []
  | _ + 1, [] => []
  | n + 1, a :: r => a :: diffsF n (stepL (a :: r))
def diffs (ns : List Int) : List Int := diffsF ns.length ns
theorem stepL_len (a : Int) (r : List Int) : (stepL (a :: r)).length = r.length := by unfold stepL; simp
theorem cut_tail {α : Type} (xs : List α) : cutD xs (some 1) none = xs.tail := by
  unfold cutD
  have h : HT.sIx xs.length 0 (some 1) = min 1 xs.length := HT.sIx_nat _ _ 1
  rw [h, HT.sIx_none]
  cases xs with
  | nil => rfl
  | cons x r =>
    rw [List.length_cons, Nat.min_eq_left (by omega)]
    simp
theorem at0 {α : Type} (a : α) (r : List α) : atI (a :: r) 0 = some a := by
  obtain ⟨x, h1, h2⟩ := atI_some (xs := a :: r) (i := 0) (Int.le_refl _) (by rw [List.length_cons]; omega)
  have : x = a := by simpa using h2.symm
  rw [h1, this]
def S_differences : FSpec := ⟨fun args Q => ∃ ns : List Int, args = [.d (.list (ns.map .int))] ∧ ns.length ≤ 100000 ∧ Q (.d (.list ((diffs ns).map .int))) []⟩
def lenAt (i : Nat) (ρ : En) : Nat := match ρ[i]? with
  | some (some (.d (.list xs))) => xs.length
  | some (some (.ls _ xs)) => xs.length
  | _ => 0
abbrev N_differences : List Str := ["items", "found", "earlier", "later"]
def ir_differences : TSt :=
  (sSeq (sAsg 1 (fLst aNil))
    (sSeq (sWhile (tVal (dBin cNe (.s 0) (.e (dFz (fLst aNil))))) (sSeq (sApp 1 (dBin bIx (.s 0) (.e (dC (.int 0)))))
    (sAsg 0 (fLc (iZp (aCons (.e (dVar 0)) (aCons (.e (dSl (.s 0) (pSome (.e (dC (.int 1)))) pNone)) aNil))) [2, 3] (.tp [2, 3]) cYes (dBin bSub (.s 3) (.s 2))))))
    (sRetV 1)))
theorem sp_differences : ∀ args Q, S_differences.sp args Q → ir_differences (endsOf args Q) (rho0 N_differences args) := by
  rintro args Q ⟨ns, rfl, hlen, q⟩
  refine ⟨fun ρ => ∃ (ms fs : List Int) (l : Lc), ρ = [some l, some (.ls none (fs.map .int)), none, none] ∧ (l = .d (.list (ms.map .int)) ∨ l = .ls none (ms.map .int)) ∧ fs ++ diffs ms = diffs ns ∧ fs.length + ms.length ≤ 100000, lenAt 0, ⟨ns, [], _, rfl, .inl rfl, rfl, by simpa using hlen⟩, ?_⟩
  rintro ρ ⟨ms, fs, l, rfl, hl, hd, hb⟩
  have shpM : ∀ ms : List Int, shp (.list (ms.map PyData.int)) := fun ms => (Shp.list (n := 0) (Shp.ints ms)).shp
  have fin : ms = [] → Q (.d (.list (fs.map .int))) [] := fun e => by
    subst e
    have : fs = diffs ns := by rw [← hd]; simp [diffs, diffsF]
    rw [this]; exact q
  have tl : ∀ (a : Int) (r : List Int), zipD ((a :: r).map PyData.int) (cutD ((a :: r).map PyData.int) (some 1) none) = List.zipWith (fun a b => PyData.tuple [.int a, .int b]) (a :: r) r := fun a r => by
    rw [cut_tail]
    unfold zipD
    rw [List.map_cons, List.tail_cons, ← List.map_cons, List.zipWith_map]
  have nxt : ∀ (a : Int) (r : List Int), ms = a :: r → (fs ++ [a]) ++ diffs (stepL (a :: r)) = diffs ns ∧ (fs ++ [a]).length + (stepL (a :: r)).length ≤ 100000 := fun a r e => by
    subst e
    refine ⟨?_, ?_⟩
    · rw [← hd]
      unfold diffs
      rw [stepL_len, List.length_cons, diffsF, List.append_assoc]
      rfl
    · rw [stepL_len, List.length_append]
      simp at hb ⊢
      omega
  have pre : ∀ (a : Int) (r : List Int) (i : Nat) (x : PD), (List.zipWith (fun a b => PyData.tuple [.int a, .int b]) (a :: r) r)[i]? = some x → ∃ u v : Int, x = .tuple [.int u, .int v] ∧ (stepL (a :: r))[i]? = some (v - u) := fun a r i x h => by
    rw [List.getElem?_zipWith] at h
    unfold stepL
    rw [List.tail_cons, List.getElem?_zipWith]
    cases e1 : (a :: r)[i]? with
    | none => rw [e1] at h; simp at h
    | some u =>
      cases e2 : r[i]? with
      | none => rw [e1, e2] at h; simp at h
      | some v => rw [e1, e2] at h; simp at h; exact ⟨u, v, h.symm, rfl⟩
  have ln : ∀ (a : Int) (r : List Int), (List.zipWith (fun a b => PyData.tuple [.int a, .int b]) (a :: r) r).length = (stepL (a :: r)).length := fun a r => by rw [stepL_len]; simp
  have emp : ∀ ms : List Int, (!PyData.eqv (.list (ms.map PyData.int)) (.list [])) = true → ∃ a r, ms = a :: r := fun ms h => by
    cases ms with
    | nil => simp [eqv_nil] at h
    | cons a r => exact ⟨a, r, rfl⟩
  have emp2 : ∀ ms : List Int, (!PyData.eqv (.list (ms.map PyData.int)) (.list [])) = false → ms = [] := fun ms h => by
    cases ms with
    | nil => rfl
    | cons a r => simp [eqv_nil] at h
  rcases hl with rfl | rfl
  all_goals
    refine ⟨shpM ms, ⟨rfl, rfl⟩, fun h => ?_, fun h => ?_⟩
    · obtain ⟨a, r, e⟩ := emp ms h
      subst e
      obtain ⟨n1, n2⟩ := nxt a r rfl
      refine ⟨.int a, at0 _ _, ?_, ?_⟩
      · rw [List.length_map, sizeLine_eq]; simp at hb; omega
      refine ⟨⟨rfl, rfl⟩, fun i acc ρ => acc = ((stepL (a :: r)).take i).map .int ∧ ρ = [some (.d (.list ((a :: r).map .int))), some (.ls none ((fs ++ [a]).map .int)), none, none], ?_, fun _ _ _ _ => trivial, ?_, ?_⟩
      · refine ⟨rfl, ?_⟩
        rw [List.map_append]
        rfl
      · rintro i x acc ρ hx ⟨rfl, rfl⟩
        have hx : (zipD ((a :: r).map PyData.int) (cutD ((a :: r).map PyData.int) (some 1) none))[i]? = some x := hx
        rw [tl] at hx
        obtain ⟨u, v, rfl, hs⟩ := pre a r i x hx
        refine ⟨rfl, fun _ => ⟨?_, ?_, rfl⟩, nofun⟩
        · rw [List.length_map, List.length_take, sizeLine_eq]
          have := stepL_len a r
          simp at hb
          omega
        · rw [List.take_add_one, hs, Option.toList_some, List.map_append]
          rfl
      · rintro acc ρ ⟨rfl, rfl⟩
        have el : (Wk.items (zipD ((a :: r).map PyData.int) (cutD ((a :: r).map PyData.int) (some 1) none))).list.length = (stepL (a :: r)).length := by
          show (zipD ((a :: r).map PyData.int) (cutD ((a :: r).map PyData.int) (some 1) none)).length = _
          rw [tl, ln]
        rw [el, List.take_length]
        refine ⟨⟨stepL (a :: r), fs ++ [a], _, rfl, .inr rfl, n1, n2⟩, ?_⟩
        show ((stepL (a :: r)).map PyData.int).length < ((a :: r).map PyData.int).length
        rw [List.length_map, List.length_map, stepL_len]
        exact Nat.lt_succ_self _
    · have := fin (emp2 ms h)
      exact .inr ⟨rfl, this⟩
end DL
namespace DL
open PySem L2 PyProof.Rows
/-! the square of differences, the rows -/
def dN (g : Nat → Int) : Nat → Int := fun k => g (k + 1) - g k
def itN : Nat → (Nat → Int) → Nat → Int
  | 0, g => g
  | n + 1, g => itN n (dN g)
theorem itN_succ (g : Nat → Int) : ∀ n k, itN (n + 1) g k = itN n g (k + 1) - itN n g k
  | 0, k => rfl
  | n + 1, k => by
    show itN (n + 1) (dN g) k = itN n (dN g) (k + 1) - itN n (dN g) k
    exact itN_succ (dN g) n k
theorem stepL_range (g : Nat → Int) (n : Nat) : stepL ((List.range (n + 1)).map g) = (List.range n).map (dN g) := by
  apply List.ext_getElem?
  intro i
  unfold stepL
  rw [List.getElem?_zipWith, List.getElem?_map, List.getElem?_map, List.getElem?_tail, List.getElem?_map]
  by_cases h : i < n
  · rw [List.getElem?_range h, List.getElem?_range (by omega), List.getElem?_range (by omega)]
    rfl
  · rw [List.getElem?_eq_none (l := List.range n) (by simp; omega), List.getElem?_eq_none (l := List.range (n + 1)) (i := i + 1) (by simp; omega)]
    cases (List.range (n + 1))[i]? <;> rfl
theorem diffsF_range : ∀ (n : Nat) (g : Nat → Int), diffsF n ((List.range n).map g) = (List.range n).map fun k => itN k g 0
  | 0, g => rfl
  | n + 1, g => by
    have e : (List.range (n + 1)).map g = g 0 :: ((List.range n).map fun k => g (k + 1)) := by
      rw [List.range_succ_eq_map, List.map_cons, List.map_map]; rfl
    have s : stepL (g 0 :: ((List.range n).map fun k => g (k + 1))) = (List.range n).map (dN g) := by rw [← e, stepL_range]
    rw [e, diffsF, s, diffsF_range n (dN g)]
    rw [List.range_succ_eq_map, List.map_cons, List.map_map]
    rfl
theorem diffs_range (n : Nat) (g : Nat → Int) : diffs ((List.range n).map g) = (List.range n).map fun k => itN k g 0 := by
  unfold diffs
  rw [List.length_map, List.length_range, diffsF_range]
theorem itX_succ' (f : F2I) : ∀ n, itX (n + 1) f = itX n (dX f)
  | 0 => rfl
  | n + 1 => by rw [itX, itX_succ' f n]; rfl
theorem itN_itX (y : Int) : ∀ (n : Nat) (f : F2I) (k : Nat), itN n (fun k => f (k : Nat) y) k = itX n f (k : Nat) y
  | 0, f, k => rfl
  | n + 1, f, k => by
    rw [itX_succ', ← itN_itX y n (dX f) k]
    have e : (dN fun k => f (k : Nat) y) = fun k => dX f (k : Nat) y := by
      funext j
      show f ((j + 1 : Nat) : Int) y - f (j : Nat) y = f ((j : Int) + 1) y - f (j : Nat) y
      rw [show ((j + 1 : Nat) : Int) = (j : Int) + 1 by omega]
    show itN n (dN fun k => f (k : Nat) y) k = _
    rw [e]
theorem itN_itY (x : Int) : ∀ (n : Nat) (f : F2I) (k : Nat), itN n (fun k => f x (k : Nat)) k = itY n f x (k : Nat)
  | 0, f, k => rfl
  | n + 1, f, k => by
    rw [itN_succ, itN_itY x n f, itN_itY x n f]
    show itY n f x ((k + 1 : Nat) : Int) - itY n f x (k : Nat) = itY n f x ((k : Int) + 1) - itY n f x (k : Nat)
    rw [show ((k + 1 : Nat) : Int) = (k : Int) + 1 by omega]
def sqRow (f : F2I) (i : Nat) : PD := .list ((List.range 17).map fun j => .int (dd i j f))
def S_square (d : Nat) : FSpec := ⟨fun args Q => ∃ (f : FT) (m : Nat), args = [.d f.pd] ∧ f.lev ≤ d ∧ f.ok m ∧ 10 ≤ m ∧ Q (.d (.list ((List.range 17).map (sqRow fun u v => f.val u v)))) []⟩
theorem rng17 {lo : Int} {i : Nat} {x : PD} (h : (rngD 0 ((17 : Int) - 0).toNat)[i]? = some x) : x = .int (i : Nat) ∧ i < 17 := by
  obtain ⟨rfl, h2⟩ := rngD_get h
  exact ⟨by rw [Int.zero_add], h2⟩
theorem mapR_succ {α : Type} (g : Nat → α) (i : Nat) : (List.range i).map g ++ [g i] = (List.range (i + 1)).map g := by
  rw [List.range_succ, List.map_append]; rfl
theorem ints_of (g : Nat → Int) (n : Nat) : (List.range n).map (fun i => PyData.int (g i)) = ((List.range n).map g).map .int := by rw [List.map_map]; rfl
theorem atR {α : Type} (g : Nat → α) {n i : Nat} (h : i < n) : atI ((List.range n).map g) (i : Nat) = some (g i) :=
  atI_nat (by rw [List.getElem?_map, List.getElem?_range h]; rfl)
abbrev N_square : List Str := ["formula", "size", "by_y", "columns", "x", "y", "j", "i"]
def ir_square (S_differences : FSpec) (S_worth : FSpec) : TSt :=
  (sSeq (sAsg 1 (fD (dBin bAdd (.e (dC (.int 16))) (.e (dC (.int 1))))))
    (sSeq (sAsg 2 (fLc (iRg (aCons (.s 1) aNil)) [4] (.nm 4) cYes (dFz (fCall S_differences (aCons (.e (dFz (fLc (iRg (aCons (.s 1) aNil)) [5] (.nm 5) cYes (dFz (fCall S_worth (aCons (.e (dVar 0)) (aCons (.e (dVar 4)) (aCons (.e (dVar 5)) aNil)))))))) aNil)))))
    (sSeq (sAsg 3 (fLc (iRg (aCons (.s 1) aNil)) [6] (.nm 6) cYes (dFz (fCall S_differences (aCons (.e (dFz (fLc (iRg (aCons (.s 1) aNil)) [4] (.nm 4) cYes (dBin bIx (.e (dBin bIx (.s 2) (.s 4))) (.s 6))))) aNil)))))
    (sRet (fLc (iRg (aCons (.s 1) aNil)) [7] (.nm 7) cYes (dFz (fLc (iRg (aCons (.s 1) aNil)) [6] (.nm 6) cYes (dBin bIx (.e (dBin bIx (.s 3) (.s 6))) (.s 7)))))))))
theorem sp_square (d : Nat) : ∀ args Q, (S_square d).sp args Q → ir_square S_differences (S_worth d) (endsOf args Q) (rho0 N_square args) := by
  rintro args Q ⟨f, m, rfl, hl, ok, hm, q⟩
  have sm : ∀ i : Nat, i < 17 → ((i : Nat) : Int).natAbs < 2 ^ m := fun i hi => Nat.lt_of_lt_of_le (show _ < 2 ^ 10 by omega) (Nat.pow_le_pow_right (by decide) hm)
  have difY : ∀ i : Nat, diffs ((List.range 17).map fun y => f.val (i : Nat) (y : Nat)) = (List.range 17).map fun j => itY j (fun u v => f.val u v) (i : Nat) 0 := fun i => by
    rw [diffs_range]
    apply List.map_congr_left
    intro j _
    exact itN_itY (i : Nat) j (fun u v => f.val u v) 0
  have difX : ∀ j : Nat, diffs ((List.range 17).map fun x => itY j (fun u v => f.val u v) (x : Nat) 0) = (List.range 17).map fun i => dd i j (fun u v => f.val u v) := fun j => by
    rw [diffs_range]
    apply List.map_congr_left
    intro i _
    exact itN_itX 0 i (itY j fun u v => f.val u v) 0
  have szl : ∀ n : Nat, n < 17 → n < sizeLine := fun n h => by rw [sizeLine_eq]; omega
  refine ⟨by decide, ⟨rfl, rfl⟩, fun i acc ρ => acc = (List.range i).map (fun x => PyData.list ((List.range 17).map fun j => .int (itY j (fun u v => f.val u v) (x : Nat) 0))) ∧ ρ = [some (.d f.pd), some (.d (.int 17)), none, none, none, none, none, none], ⟨rfl, rfl⟩, fun _ _ _ _ => trivial, ?_, ?_⟩
  · rintro i x acc ρ hx ⟨rfl, rfl⟩
    obtain ⟨rfl, hi⟩ := rng17 (lo := 0) hx
    refine ⟨fun _ => ?_, nofun⟩
    refine ⟨by decide, ⟨rfl, rfl⟩, fun j acc ρ => acc = (List.range j).map (fun y => PyData.int (f.val (i : Nat) (y : Nat))) ∧ ρ = [some (.d f.pd), some (.d (.int 17)), none, none, some (.d (.int (i : Nat))), none, none, none], ⟨rfl, rfl⟩, fun _ _ _ _ => trivial, ?_, ?_⟩
    · rintro j y acc ρ hy ⟨rfl, rfl⟩
      obtain ⟨rfl, hj⟩ := rng17 (lo := 0) hy
      refine ⟨fun _ => ⟨rfl, f, _, _, m, rfl, hl, ok, sm i hi, sm j hj, ?_, ?_, rfl⟩, nofun⟩
      · rw [List.length_map, List.length_range]; exact szl j hj
      · exact mapR_succ (fun y => PyData.int (f.val (i : Nat) (y : Nat))) j
    · rintro acc ρ ⟨rfl, rfl⟩
      have el : (Wk.items (rngD 0 ((17 : Int)).toNat)).list.length = 17 := rngD_len
      rw [el]
      refine ⟨rfl, (List.range 17).map fun y => f.val (i : Nat) (y : Nat), by rw [← ints_of]; rfl, by simp, ?_⟩
      refine ⟨?_, ?_, rfl⟩
      · rw [List.length_map, List.length_range]; exact szl i hi
      · show _ ++ [PyData.list ((diffs _).map PyData.int)] = _
        rw [difY, List.map_map]
        exact mapR_succ (fun x : Nat => PyData.list ((List.range 17).map fun j => .int (itY j (fun u v => f.val u v) (x : Nat) 0))) i
  · rintro acc ρ ⟨rfl, rfl⟩
    have el : (Wk.items (rngD 0 ((16 : Int) + 1).toNat)).list.length = 17 := rngD_len
    rw [el]
    obtain ⟨byY, hY⟩ : ∃ l, l = (List.range 17).map (fun x => PyData.list ((List.range 17).map fun j => .int (itY j (fun u v => f.val u v) (x : Nat) 0))) := ⟨_, rfl⟩
    refine ⟨by decide, ⟨rfl, rfl⟩, fun i acc ρ => acc = (List.range i).map (fun j => PyData.list ((List.range 17).map fun i => .int (dd i j (fun u v => f.val u v)))) ∧ ρ = [some (.d f.pd), some (.d (.int 17)), some (.ls none byY), none, none, none, none, none], ⟨rfl, by rw [hY]; rfl⟩, fun _ _ _ _ => trivial, ?_, ?_⟩
    · rintro j x acc ρ hx ⟨rfl, rfl⟩
      obtain ⟨rfl, hj⟩ := rng17 (lo := 0) hx
      refine ⟨fun _ => ?_, nofun⟩
      refine ⟨by decide, ⟨rfl, rfl⟩, fun i acc ρ => acc = (List.range i).map (fun x => PyData.int (itY j (fun u v => f.val u v) (x : Nat) 0)) ∧ ρ = [some (.d f.pd), some (.d (.int 17)), some (.ls none byY), none, none, none, some (.d (.int (j : Nat))), none], ⟨rfl, rfl⟩, fun _ _ _ _ => trivial, ?_, ?_⟩
      · rintro i y acc ρ hy ⟨rfl, rfl⟩
        obtain ⟨rfl, hi⟩ := rng17 (lo := 0) hy
        refine ⟨fun _ => ⟨.list ((List.range 17).map fun j => .int (itY j (fun u v => f.val u v) (i : Nat) 0)), by rw [hY]; exact atR _ hi, _, atR _ hj, ?_, ?_, rfl⟩, nofun⟩
        · rw [List.length_map, List.length_range]; exact szl i hi
        · exact mapR_succ (fun x => PyData.int (itY j (fun u v => f.val u v) (x : Nat) 0)) i
      · rintro acc ρ ⟨rfl, rfl⟩
        have el : (Wk.items (rngD 0 ((17 : Int)).toNat)).list.length = 17 := rngD_len
        rw [el]
        refine ⟨rfl, (List.range 17).map fun x => itY j (fun u v => f.val u v) (x : Nat) 0, by rw [← ints_of]; rfl, by simp, ?_⟩
        refine ⟨?_, ?_, rfl⟩
        · rw [List.length_map, List.length_range]; exact szl j hj
        · show _ ++ [PyData.list ((diffs _).map PyData.int)] = _
          rw [difX, List.map_map]
          exact mapR_succ (fun j : Nat => PyData.list ((List.range 17).map fun i => .int (dd i j (fun u v => f.val u v)))) j
    · rintro acc ρ ⟨rfl, rfl⟩
      have el : (Wk.items (rngD 0 ((17 : Int)).toNat)).list.length = 17 := rngD_len
      rw [el]
      obtain ⟨cl, hC⟩ : ∃ l, l = (List.range 17).map (fun j => PyData.list ((List.range 17).map fun i => .int (dd i j (fun u v => f.val u v)))) := ⟨_, rfl⟩
      refine ⟨by decide, ⟨rfl, rfl⟩, fun i acc ρ => acc = (List.range i).map (sqRow fun u v => f.val u v) ∧ ρ = [some (.d f.pd), some (.d (.int 17)), some (.ls none byY), some (.ls none cl), none, none, none, none], ⟨rfl, by rw [hC]; rfl⟩, fun _ _ _ _ => trivial, ?_, ?_⟩
      · rintro i x acc ρ hx ⟨rfl, rfl⟩
        obtain ⟨rfl, hi⟩ := rng17 (lo := 0) hx
        refine ⟨fun _ => ?_, nofun⟩
        refine ⟨by decide, ⟨rfl, rfl⟩, fun j acc ρ => acc = (List.range j).map (fun j => PyData.int (dd i j (fun u v => f.val u v))) ∧ ρ = [some (.d f.pd), some (.d (.int 17)), some (.ls none byY), some (.ls none cl), none, none, none, some (.d (.int (i : Nat)))], ⟨rfl, rfl⟩, fun _ _ _ _ => trivial, ?_, ?_⟩
        · rintro j y acc ρ hy ⟨rfl, rfl⟩
          obtain ⟨rfl, hj⟩ := rng17 (lo := 0) hy
          refine ⟨fun _ => ⟨.list ((List.range 17).map fun i => .int (dd i j (fun u v => f.val u v))), by rw [hC]; exact atR _ hj, _, atR _ hi, ?_, ?_, rfl⟩, nofun⟩
          · rw [List.length_map, List.length_range]; exact szl j hj
          · exact mapR_succ (fun j => PyData.int (dd i j (fun u v => f.val u v))) j
        · rintro acc ρ ⟨rfl, rfl⟩
          have el : (Wk.items (rngD 0 ((17 : Int)).toNat)).list.length = 17 := rngD_len
          rw [el]
          refine ⟨?_, ?_, rfl⟩
          · rw [List.length_map, List.length_range]; exact szl i hi
          · exact mapR_succ (sqRow fun u v => f.val u v) i
      · rintro acc ρ ⟨rfl, rfl⟩
        have el : (Wk.items (rngD 0 ((17 : Int)).toNat)).list.length = 17 := rngD_len
        rw [el]
        exact .inr ⟨rfl, q⟩
end DL
namespace DL
open PySem L2 PyProof.Rows
/-! rows_of -/
theorem enumD_len (xs : List PD) : (enumD xs).length = xs.length := by unfold enumD; simp
theorem enumD_inv {xs : List PD} {i : Nat} {x : PD} (h : (enumD xs)[i]? = some x) : ∃ d, xs[i]? = some d ∧ x = .tuple [.int (i : Nat), d] := by
  have hi : i < xs.length := by rw [← enumD_len]; exact (List.getElem?_eq_some_iff.mp h).1
  have e := enumD_get (List.getElem?_eq_getElem hi)
  rw [h] at e
  exact ⟨_, List.getElem?_eq_getElem hi, by simpa using e⟩
abbrev T3 := Nat × Nat × Int
def rI (f : F2I) (i n : Nat) : List T3 := (List.range n).flatMap fun j => if dd i j f = 0 then [] else [(i, j, cof f i j)]
def rD (f : F2I) (n : Nat) : List T3 := (List.range n).flatMap fun i => rI f i 17
def rowP (t : T3) : PD := .tuple [.int (t.1 : Nat), .int (t.2.1 : Nat), .int t.2.2]
theorem rI_succ (f : F2I) (i n : Nat) : rI f i (n + 1) = rI f i n ++ (if dd i n f = 0 then [] else [(i, n, cof f i n)]) := by
  unfold rI; rw [List.range_succ, List.flatMap_append]; simp
theorem rD_succ (f : F2I) (n : Nat) : rD f (n + 1) = rD f n ++ rI f n 17 := by
  unfold rD; rw [List.range_succ, List.flatMap_append]; simp
theorem rI_len (f : F2I) (i : Nat) : ∀ n, (rI f i n).length ≤ n
  | 0 => Nat.le_refl _
  | n + 1 => by
    rw [rI_succ, List.length_append]
    have := rI_len f i n
    split <;> simp <;> omega
theorem rD_len (f : F2I) : ∀ n, (rD f n).length ≤ 17 * n
  | 0 => Nat.le_refl _
  | n + 1 => by
    rw [rD_succ, List.length_append]
    have := rD_len f n
    have := rI_len f n 17
    omega
def S_rows (d : Nat) : FSpec := ⟨fun args Q => ∃ (f : FT) (m : Nat), args = [.d f.pd] ∧ f.lev ≤ d ∧ f.ok m ∧ 10 ≤ m ∧ Q (.d (.tuple ((rD (fun u v => f.val u v) 17).map rowP))) []⟩
theorem fac_log {i : Nat} (h : i ≤ 20) : (fallI (i : Nat) i).natAbs < 2 ^ 221 := Nat.lt_of_lt_of_le (fact_small (by omega)) (Nat.pow_le_pow_right (by decide) (by omega))
theorem fac2_nn {i j : Nat} (h : i ≤ 20) (h2 : j ≤ 20) : (fallI (i : Nat) i * fallI (j : Nat) j).natAbs < 2 ^ 442 := two_mul (fac_log h) (fac_log h2) (by decide)
abbrev N_rows_of : List Str := ["formula", "found", "i", "line", "j", "difference"]
def ir_rows_of (S_square : FSpec) (S_factorial : FSpec) : TSt :=
  (sSeq (sAsg 1 (fLst aNil))
    (sSeq (sFor (iEnm (dFz (fCall S_square (aCons (.e (dVar 0)) aNil)))) (.tp [2, 3]) (sFor (iEnm (dVar 3)) (.tp [4, 5]) (sIf (tVal (dBin cNe (.s 5) (.e (dC (.int 0))))) (sApp 1 (dTup (aCons (.e (dVar 2)) (aCons (.e (dVar 4)) (aCons (.e (dBin bFdiv (.s 5) (.e (dBin bMulI (.e (dFz (fCall S_factorial (aCons (.e (dVar 2)) aNil)))) (.e (dFz (fCall S_factorial (aCons (.e (dVar 4)) aNil)))))))) aNil))))) sNext)))
    (sRet (fD (dBi bTuple (aCons (.s 1) aNil))))))
theorem sp_rows_of (d : Nat) : ∀ args Q, (S_rows d).sp args Q → ir_rows_of (S_square d) S_factorial (endsOf args Q) (rho0 N_rows_of args) := by
  rintro args Q ⟨f, m, rfl, hl, ok, hm, q⟩
  obtain ⟨F, hF⟩ : ∃ F : F2I, F = fun u v => f.val u v := ⟨_, rfl⟩
  refine ⟨rfl, f, m, rfl, hl, ok, hm, _, rfl, fun i ρ => ∃ s2 s3 s4 s5, ρ = [some (.d f.pd), some (.ls none ((rD F i).map rowP)), s2, s3, s4, s5], ⟨none, none, none, none, rfl⟩, ?_, ?_⟩
  · rintro i x ρ hx ⟨s2, s3, s4, s5, rfl⟩
    rw [← hF] at hx
    obtain ⟨z, hz, rfl⟩ := enumD_inv hx
    rw [List.getElem?_map] at hz
    obtain ⟨i', hi', rfl⟩ := Option.map_eq_some_iff.mp hz
    have hi : i < 17 := by have := (List.getElem?_eq_some_iff.mp hi').1; simpa using this
    rw [List.getElem?_range hi] at hi'
    cases hi'
    refine ⟨rfl, _, rfl, fun j ρ => ∃ s4 s5, ρ = [some (.d f.pd), some (.ls none ((rD F i ++ rI F i j).map rowP)), some (.d (.int (i : Nat))), some (.d (sqRow F i)), s4, s5], ⟨s4, s5, ?_⟩, ?_, ?_⟩
    · have : rI F i 0 = [] := rfl
      rw [this, List.append_nil]
      rfl
    · rintro j y ρ hy ⟨s4, s5, rfl⟩
      have hy : (enumD ((List.range 17).map fun j => PyData.int (dd i j F)))[j]? = some y := hy
      obtain ⟨w, hw, rfl⟩ := enumD_inv hy
      rw [List.getElem?_map] at hw
      obtain ⟨j', hj', rfl⟩ := Option.map_eq_some_iff.mp hw
      have hj : j < 17 := by have := (List.getElem?_eq_some_iff.mp hj').1; simpa using this
      rw [List.getElem?_range hj] at hj'
      cases hj'
      refine ⟨rfl, fun h => ?_, fun h => ?_⟩
      · have h : (!decide (dd i j F = 0)) = true := h
        have h0 : ¬ dd i j F = 0 := by simpa using h
        refine ⟨rfl, i, rfl, by omega, rfl, j, rfl, by omega, mulOk 221 221 (fac_log (by omega)) (fac_log (by omega)), ⟨fac2_pos i j, Nat.lt_trans (log2_lt (fac2_nn (by omega) (by omega)) (by decide)) (by decide)⟩, ?_, ?_⟩
        · have a := rD_len F i
          have b := rI_len F i j
          rw [List.length_map, List.length_append, sizeLine_eq]; omega
        · refine ⟨some (.d (.int (j : Nat))), some (.d (.int (dd i j F))), ?_⟩
          rw [rI_succ, if_neg h0, ← List.append_assoc, List.map_append (l₂ := [(i, j, cof F i j)])]
          rfl
      · have h : (!decide (dd i j F = 0)) = false := h
        have h0 : dd i j F = 0 := by simpa using h
        refine ⟨some (.d (.int (j : Nat))), some (.d (.int (dd i j F))), ?_⟩
        rw [rI_succ, if_pos h0, List.append_nil]
        rfl
    · rintro ρ ⟨s4, s5, rfl⟩
      have el : (enumD ((List.range 17).map fun j => PyData.int (dd i j F))).length = 17 := by rw [enumD_len]; simp
      refine ⟨some (.d (.int (i : Nat))), some (.d (sqRow F i)), s4, s5, ?_⟩
      rw [el, rD_succ]
  · rintro ρ ⟨s2, s3, s4, s5, rfl⟩
    have el : (enumD ((List.range 17).map (sqRow F))).length = 17 := by rw [enumD_len]; simp
    rw [← hF, el]
    rw [← hF] at q
    exact q
end DL
namespace DL
open PySem L2 PyProof.Rows
/-! totals -/
theorem bndX {g : F2I} {y : Int} {B N : Nat} (h : ∀ x : Nat, x ≤ N → (g (x : Nat) y).natAbs < 2 ^ B) : ∀ (n x : Nat), x + n ≤ N → (itX n g (x : Nat) y).natAbs < 2 ^ (B + n)
  | 0, x, hx => h x hx
  | n + 1, x, hx => by
    have a := bndX h n (x + 1) (by omega)
    have b := bndX h n x (by omega)
    rw [show ((x + 1 : Nat) : Int) = (x : Int) + 1 by omega] at a
    exact (two_add a b (by omega) (by omega)).2
theorem bndY {g : F2I} {x : Int} {B N : Nat} (h : ∀ y : Nat, y ≤ N → (g x (y : Nat)).natAbs < 2 ^ B) : ∀ (n y : Nat), y + n ≤ N → (itY n g x (y : Nat)).natAbs < 2 ^ (B + n)
  | 0, y, hy => h y hy
  | n + 1, y, hy => by
    have a := bndY h n (y + 1) (by omega)
    have b := bndY h n y (by omega)
    rw [show ((y + 1 : Nat) : Int) = (y : Int) + 1 by omega] at a
    exact (two_add a b (by omega) (by omega)).2
theorem dd_small {g : F2I} {B : Nat} (h : ∀ x y : Nat, x ≤ 16 → y ≤ 16 → (g (x : Nat) (y : Nat)).natAbs < 2 ^ B) {i j : Nat} (hi : i ≤ 16) (hj : j ≤ 16) : (dd i j g).natAbs < 2 ^ (B + 32) := by
  have a : ∀ x : Nat, x ≤ 16 → (itY j g (x : Nat) ((0 : Nat) : Int)).natAbs < 2 ^ (B + j) := fun x hx => bndY (fun y hy => h x y hx hy) j 0 (by omega)
  have b := bndX (g := itY j g) (y := ((0 : Nat) : Int)) a i 0 (by omega)
  exact Nat.lt_of_lt_of_le b (Nat.pow_le_pow_right (by decide) (by omega))
theorem cof_mul {d : Nat} {f : F2I} (h : Pol d f) (i j : Nat) : cof f i j * fac2 i j = dd i j f := Int.ediv_mul_cancel (h.dvd i j)
theorem cof_small {d B : Nat} {f : F2I} (h : Pol d f) {i j : Nat} (hb : (dd i j f).natAbs < 2 ^ B) : (cof f i j).natAbs < 2 ^ B := by
  rw [← cof_mul h, Int.natAbs_mul] at hb
  have := fac2_pos i j
  exact Nat.lt_of_le_of_lt (Nat.le_mul_of_pos_right _ (by omega)) hb
theorem FT.dd_small {f : FT} {m : Nat} (ok : f.ok m) (hm : 10 ≤ m) {i j : Nat} (hi : i ≤ 16) (hj : j ≤ 16) : (dd i j fun u v => f.val u v).natAbs < 2 ^ 100032 := by
  have sm : ∀ x : Nat, x ≤ 16 → ((x : Nat) : Int).natAbs < 2 ^ m := fun x hx => Nat.lt_of_lt_of_le (show _ < 2 ^ 10 by omega) (Nat.pow_le_pow_right (by decide) hm)
  have z := DL.dd_small (g := fun u v => f.val u v) (B := (f.lev + m) * f.e) (fun x y hx hy => FT.small (sm x hx) (sm y hy) ok.1) hi hj
  exact Nat.lt_of_lt_of_le z (Nat.pow_le_pow_right (by decide) (by have := ok.2; omega))
theorem rI_mem {f : F2I} {i n : Nat} {t : T3} (h : t ∈ rI f i n) : t.1 = i ∧ t.2.1 < n ∧ t.2.2 = cof f i t.2.1 ∧ dd i t.2.1 f ≠ 0 := by
  unfold rI at h
  obtain ⟨j, hj, ht⟩ := List.mem_flatMap.mp h
  split at ht
  · cases ht
  · rename_i h0
    simp only [List.mem_cons, List.not_mem_nil, or_false] at ht
    subst ht
    exact ⟨rfl, List.mem_range.mp hj, rfl, h0⟩
theorem rD_mem {f : F2I} {n : Nat} {t : T3} (h : t ∈ rD f n) : t.1 < n ∧ t.2.1 < 17 ∧ t.2.2 = cof f t.1 t.2.1 ∧ dd t.1 t.2.1 f ≠ 0 := by
  unfold rD at h
  obtain ⟨i, hi, ht⟩ := List.mem_flatMap.mp h
  obtain ⟨rfl, b, c, d⟩ := rI_mem ht
  exact ⟨List.mem_range.mp hi, b, c, d⟩
theorem rI_sum (f : F2I) (s : Nat → Nat → Int) (i : Nat) : ∀ n, ((rI f i n).map fun t => t.2.2 * s t.1 t.2.1).sum = sumN n fun j => cof f i j * s i j
  | 0 => rfl
  | n + 1 => by
    rw [rI_succ, List.map_append, List.sum_append, rI_sum f s i n, sumN]
    congr 1
    split
    · rename_i h
      have : cof f i n = 0 := by unfold cof; rw [h, Int.zero_ediv]
      rw [this, Int.zero_mul]; rfl
    · simp
theorem rD_sum (f : F2I) (s : Nat → Nat → Int) : ∀ n, ((rD f n).map fun t => t.2.2 * s t.1 t.2.1).sum = sumN n fun i => sumN 17 fun j => cof f i j * s i j
  | 0 => rfl
  | n + 1 => by
    rw [rD_succ, List.map_append, List.sum_append, rD_sum f s n, rI_sum]
    rfl
/-- the sum of falling products -/
def sumF (c k : Nat) : Int := fallI (c : Nat) (k + 1) / ((k : Int) + 1)
theorem sumN_fall (k : Nat) : ∀ n : Nat, ((k : Int) + 1) * sumN n (fun x => fallI (x : Nat) k) = fallI (n : Nat) (k + 1)
  | 0 => by rw [sumN, Int.mul_zero]; exact (fall_zero k).symm
  | n + 1 => by
    rw [sumN, Int.mul_add, sumN_fall k n]
    have := fall_diff (n : Int) k
    rw [show ((n + 1 : Nat) : Int) = (n : Int) + 1 by omega]
    omega
theorem sumF_eq (c k : Nat) : sumF c k = sumN c fun x => fallI (x : Nat) k := by
  unfold sumF
  rw [← sumN_fall k c]
  exact Int.mul_ediv_cancel_left _ (by omega)
theorem sumF_small {c k : Nat} (hc : c < 2 ^ 110) (hk : k ≤ 100) : (sumF c k).natAbs < 2 ^ (111 * (k + 1) + 1) := by
  have a : (fallI (c : Nat) (k + 1)).natAbs < 2 ^ (111 * (k + 1) + 1) := fallI_small (by rw [Int.natAbs_natCast]; omega)
  have e : ((k : Int) + 1) * sumF c k = fallI (c : Nat) (k + 1) := by rw [sumF_eq, sumN_fall]
  rw [← e, Int.natAbs_mul] at a
  exact Nat.lt_of_le_of_lt (Nat.le_mul_of_pos_left _ (by omega)) a
def S_sumof : FSpec := ⟨fun args Q => ∃ c k : Nat, args = [.d (.int c), .d (.int k)] ∧ c < 2 ^ 110 ∧ k ≤ 100 ∧ Q (.d (.int (sumF c k))) []⟩
abbrev N_sum_of : List Str := ["clock", "k"]
def ir_sum_of (S_neighbours : FSpec) : TSt :=
  (sRet (fD (dBin bFdiv (.e (dFz (fCall S_neighbours (aCons (.e (dVar 0)) (aCons (.e (dBin bAdd (.s 1) (.e (dC (.int 1))))) aNil))))) (.e (dBin bAdd (.s 1) (.e (dC (.int 1))))))))
theorem sp_sum_of : ∀ args Q, S_sumof.sp args Q → ir_sum_of S_falling (endsOf args Q) (rho0 N_sum_of args) := by
  rintro args Q ⟨c, k, rfl, hc, hk, q⟩
  have e : ((k : Nat) : Int) + 1 = ((k + 1 : Nat) : Int) := by omega
  refine ⟨rfl, (c : Nat), k + 1, 111, by rw [← e], by rw [Int.natAbs_natCast]; omega, by decide, by omega, by omega, ?_⟩
  exact ⟨⟨by omega, Nat.lt_trans (log2_const (i := ((k : Nat) : Int) + 1) (k := 10) (by omega)) (by decide)⟩, q⟩
/-- all rows together -/
def totF (f : F2I) (c : Nat) : Int := ((rD f 17).map fun t => t.2.2 * sumF c t.1).sum
def S_total (d : Nat) : FSpec := ⟨fun args Q => ∃ (f : FT) (c m : Nat), args = [.d f.pd, .d (.int c)] ∧ f.lev ≤ d ∧ f.ok m ∧ 10 ≤ m ∧ 0 < c ∧ c < 2 ^ 110 ∧ Q (.d (.int (totF (fun u v => f.val u v) c % c))) []⟩
abbrev N_total : List Str := ["formula", "clock", "i", "j", "c"]
def ir_total (S_rows_of : FSpec) (S_sum_of : FSpec) : TSt :=
  (sRet (fD (dBin bMod (.e (dBi bSum (aCons (.e (dFz (fLc (iSeq (dFz (fCall S_rows_of (aCons (.e (dVar 0)) aNil)))) [2, 3, 4] (.tp [2, 3, 4]) cYes (dBin bMulI (.s 4) (.e (dFz (fCall S_sum_of (aCons (.e (dVar 1)) (aCons (.e (dVar 2)) aNil))))))))) aNil))) (.s 1))))
theorem sp_total (d : Nat) : ∀ args Q, (S_total d).sp args Q → ir_total (S_rows d) S_sumof (endsOf args Q) (rho0 N_total args) := by
  rintro args Q ⟨f, c, m, rfl, hl, ok, hm, c0, hc, q⟩
  obtain ⟨F, hF⟩ : ∃ F : F2I, F = fun u v => f.val u v := ⟨_, rfl⟩
  rw [← hF] at q
  have pol : Pol f.deg F := by rw [hF]; exact f.pol
  have sm : ∀ {i j : Nat}, i ≤ 16 → j ≤ 16 → (cof F i j).natAbs < 2 ^ 100032 := fun hi hj => cof_small pol (by rw [hF]; exact FT.dd_small ok hm hi hj)
  refine ⟨rfl, f, m, rfl, hl, ok, hm, ⟨rfl, rfl⟩, fun i acc ρ => acc = ((rD F 17).take i).map (fun t => PyData.int (t.2.2 * sumF c t.1)) ∧ ρ = [some (.d f.pd), some (.d (.int c)), none, none, none], ⟨rfl, rfl⟩, fun _ _ _ _ => trivial, ?_, ?_⟩
  · rintro i x acc ρ hx ⟨rfl, rfl⟩
    rw [← hF] at hx
    have hx : ((rD F 17).map rowP)[i]? = some x := hx
    rw [List.getElem?_map] at hx
    obtain ⟨t, ht, rfl⟩ := Option.map_eq_some_iff.mp hx
    obtain ⟨t1, t2, t3, _⟩ := rD_mem (List.mem_of_getElem? ht)
    refine ⟨rfl, fun _ => ⟨rfl, c, t.1, rfl, hc, by omega, ?_, ?_, ?_, rfl⟩, nofun⟩
    · refine mulOk 100032 (111 * (t.1 + 1) + 1) ?_ (sumF_small hc (by omega)) (by omega) (by decide) (by omega)
      rw [t3]; exact sm (by omega) (by omega)
    · have := rD_len F 17
      rw [List.length_map, List.length_take, sizeLine_eq]; omega
    · rw [List.take_add_one, ht, Option.toList_some, List.map_append]
      rfl
  · rintro acc ρ ⟨rfl, rfl⟩
    have el : (Wk.items ((rD F 17).map rowP)).list.length = (rD F 17).length := List.length_map _
    rw [← hF, el, List.take_length]
    exact ⟨(rD F 17).map (fun t : T3 => t.2.2 * sumF c t.1), by rw [List.map_map]; rfl, by omega, q⟩
/-! .. are the sums over the hours -/
theorem FT.val_noY : ∀ {f : FT}, f.hasY = false → ∀ u v w : Int, f.val u v = f.val u w
  | int _, _, _, _, _ => rfl
  | x, _, _, _, _ => rfl
  | y, h, _, _, _ => by cases h
  | add a b, h, u, v, w => by
    simp only [hasY, Bool.or_eq_false_iff] at h
    simp only [val]; rw [val_noY h.1 u v w, val_noY h.2 u v w]
  | sub a b, h, u, v, w => by
    simp only [hasY, Bool.or_eq_false_iff] at h
    simp only [val]; rw [val_noY h.1 u v w, val_noY h.2 u v w]
  | mul a b, h, u, v, w => by
    simp only [hasY, Bool.or_eq_false_iff] at h
    simp only [val]; rw [val_noY h.1 u v w, val_noY h.2 u v w]
  | pow a n, h, u, v, w => by simp only [val]; rw [val_noY (f := a) h u v w]
theorem itX_zero : ∀ n, itX n (fun _ _ => (0 : Int)) = fun _ _ => 0
  | 0 => rfl
  | n + 1 => by rw [itX, itX_zero n]; funext x y; simp [dX]
theorem itY_lone {f : F2I} (h : ∀ u v w : Int, f u v = f u w) : ∀ n, itY (n + 1) f = fun _ _ => 0
  | 0 => by funext x y; show f x (y + 1) - f x y = 0; rw [h x (y + 1) y]; omega
  | n + 1 => by rw [itY, itY_lone h n]; funext x y; simp [dY]
theorem dd_lone {f : F2I} (h : ∀ u v w : Int, f u v = f u w) (i j : Nat) : dd i (j + 1) f = 0 := by
  unfold dd; rw [itY_lone h, itX_zero]
theorem sumN_mul (a : Int) (g : Nat → Int) : ∀ n, sumN n (fun i => a * g i) = a * sumN n g
  | 0 => by rw [sumN, sumN, Int.mul_zero]
  | n + 1 => by rw [sumN, sumN, sumN_mul a g n, Int.mul_add]
theorem sumN_swap (g : Nat → Nat → Int) (m : Nat) : ∀ n, sumN n (fun i => sumN m fun j => g i j) = sumN m fun j => sumN n fun i => g i j
  | 0 => (sumN_zero fun _ _ => rfl).symm
  | n + 1 => by
    rw [sumN, sumN_swap g m n, ← sumN_add]
    rfl
theorem cof0 {f : F2I} {i j : Nat} (h : dd i j f = 0) : cof f i j = 0 := by unfold cof; rw [h, Int.zero_ediv]
theorem lone_rows {f : F2I} (h : ∀ u v w : Int, f u v = f u w) (s : Nat → Nat → Int) (N M : Nat) (hM : 0 < M) : (sumN N fun i => sumN M fun j => cof f i j * s i j) = sumN N fun i => cof f i 0 * s i 0 := by
  apply sumN_congr
  intro i _
  exact sumN_one (k := 0) hM fun j hj => by
    obtain ⟨k, rfl⟩ : ∃ k, j = k + 1 := ⟨j - 1, by omega⟩
    rw [cof0 (dd_lone h i k), Int.zero_mul]
/-- a lone formula's total -/
theorem totF_lone {f : FT} (hy : f.hasY = false) (hd : f.deg ≤ 16) (c : Nat) : totF (fun u v => f.val u v) c = sumN c fun x => f.val (x : Nat) 0 := by
  have lone : ∀ u v w : Int, (fun u v => f.val u v) u v = (fun u v => f.val u v) u w := fun u v w => FT.val_noY hy u v w
  unfold totF
  rw [rD_sum (fun u v => f.val u v) (fun i _ => sumF c i), lone_rows lone _ _ _ (by decide)]
  have e : ∀ x : Nat, f.val (x : Nat) 0 = sumN 17 fun i => cof (fun u v => f.val u v) i 0 * fallI (x : Nat) i := fun x => by
    have := f.pol.whole (N := 17) (by omega) (x : Nat) 0
    rw [this]
    have z := lone_rows lone (fun i j => fallI (x : Nat) i * fallI 0 j) 17 17 (by decide)
    have q1 : (fun i => sumN 17 fun j => cof (fun u v => f.val u v) i j * fallI (x : Nat) i * fallI 0 j) = fun i => sumN 17 fun j => cof (fun u v => f.val u v) i j * (fallI (x : Nat) i * fallI 0 j) := by
      funext i
      exact sumN_congr fun j _ => Int.mul_assoc ..
    rw [q1, z]
    exact sumN_congr fun i _ => by show _ * (_ * 1) = _; rw [Int.mul_one]
  have q2 : (sumN c fun x => f.val (x : Nat) 0) = sumN c fun x => sumN 17 fun i => cof (fun u v => f.val u v) i 0 * fallI (x : Nat) i := sumN_congr fun x _ => e x
  rw [q2, sumN_swap]
  exact sumN_congr fun i _ => by rw [sumN_mul, sumF_eq]
end DL
namespace DL
open PySem L2 PyProof.Rows
theorem nb {a b : Str} {p : Prop} (e : a = b) (h : (!decide (a = b)) = true) : p := by simp [e] at h
theorem lets_x : Lets false [FT.x.pd] := ⟨by decide, by decide, fun l hl => by simp at hl; exact .inl hl⟩
theorem sumN_dvd {m : Int} {g : Nat → Int} : ∀ {n : Nat}, (∀ i, i < n → m ∣ g i) → m ∣ sumN n g
  | 0, _ => Int.dvd_zero _
  | n + 1, h => Int.dvd_add (sumN_dvd fun i hi => h i (by omega)) (h n (by omega))
theorem fac_dvd : ∀ (k n : Nat), fallI (k : Nat) k ∣ fallI (n : Nat) k
  | 0, n => ⟨1, rfl⟩
  | k + 1, n => by
    rw [fall_fact k, ← sumN_fall k n, show ((k + 1 : Nat) : Int) = (k : Int) + 1 by omega]
    exact Int.mul_dvd_mul_left _ (sumN_dvd fun i _ => fac_dvd k i)
/-- a row's part of the sum -/
theorem part_eq {f : F2I} {d : Nat} (h : Pol d f) (k c : Nat) : dd k 0 f * (fallI (c : Nat) (k + 1) / fallI ((k + 1 : Nat) : Int) (k + 1)) = cof f k 0 * sumF c k := by
  obtain ⟨b, hb⟩ := fac_dvd (k + 1) c
  have p1 := fall_self_pos (k + 1)
  have e0 : fac2 k 0 = fallI (k : Nat) k := by unfold fac2; simp [fallI]
  rw [← cof_mul h k 0, e0]
  unfold sumF
  rw [hb, Int.mul_ediv_cancel_left _ (Int.ne_of_gt p1), fall_fact k, show ((k + 1 : Nat) : Int) = (k : Int) + 1 by omega, Int.mul_assoc ((k : Int) + 1), Int.mul_ediv_cancel_left _ (by omega), Int.mul_assoc]
theorem quo_small {c k : Nat} (hc : c < 2 ^ 110) (hk : k ≤ 16) : (fallI (c : Nat) (k + 1) / fallI ((k + 1 : Nat) : Int) (k + 1)).natAbs < 2 ^ 3000 := by
  obtain ⟨b, hb⟩ := fac_dvd (k + 1) c
  have p1 := fall_self_pos (k + 1)
  have a : (fallI (c : Nat) (k + 1)).natAbs < 2 ^ (111 * (k + 1) + 1) := fallI_small (by rw [Int.natAbs_natCast]; omega)
  rw [hb, Int.mul_ediv_cancel_left _ (Int.ne_of_gt p1)]
  rw [hb, Int.natAbs_mul] at a
  exact Nat.lt_of_lt_of_le (Nat.lt_of_le_of_lt (Nat.le_mul_of_pos_left _ (by omega)) a) (Nat.pow_le_pow_right (by decide) (by omega))
def S_lawsum (d : Nat) : FSpec := ⟨fun args Q => ∃ (f : FT) (c m : Nat), args = [.d f.pd, .d (.int c)] ∧ f.lev ≤ d ∧ f.ok m ∧ 10 ≤ m ∧ f.hasY = false ∧ f.deg ≤ 16 ∧ 0 < c ∧ c < 2 ^ 110 ∧ Q (.d (.int (totF (fun u v => f.val u v) c))) []⟩
theorem totF_parts {f : FT} (hy : f.hasY = false) (c : Nat) : totF (fun u v => f.val u v) c = sumN 17 fun k => dd k 0 (fun u v => f.val u v) * (fallI (c : Nat) (k + 1) / fallI ((k + 1 : Nat) : Int) (k + 1)) := by
  have lone : ∀ u v w : Int, (fun u v => f.val u v) u v = (fun u v => f.val u v) u w := fun u v w => FT.val_noY hy u v w
  unfold totF
  rw [rD_sum (fun u v => f.val u v) (fun i _ => sumF c i), lone_rows lone _ _ _ (by decide)]
  exact sumN_congr fun k _ => (part_eq f.pol k c).symm
theorem itN_dd (f : FT) (k : Nat) : itN k (fun x => f.val (x : Nat) 0) 0 = dd k 0 (fun u v => f.val u v) := itN_itX 0 k (fun u v => f.val u v) 0
abbrev N_law_sum_aa3b : List Str := ["formula", "clock", "row", "found", "k", "x", "at"]
def ir_law_sum_aa3b (S_law_worth_98b9 : FSpec) (S_law_falling_d92b : FSpec) : TSt :=
  (sSeq (sUnp (.tp [2, 3]) (dTup (aCons (.e (dFz (fLc (iRg (aCons (.e (dC (.int 17))) aNil)) [5] (.nm 5) cYes (dFz (fCall S_law_worth_98b9 (aCons (.e (dVar 0)) (aCons (.e (dVar 5)) (aCons (.e (dC (.int 0))) aNil)))))))) (aCons (.e (dC (.int 0))) aNil))))
    (sSeq (sFor (iRg (aCons (.e (dC (.int 17))) aNil)) (.nm 4) (sSeq (sAsg 3 (fD (dBin bAdd (.s 3) (.e (dBin bMulI (.e (dBin bIx (.s 2) (.e (dC (.int 0))))) (.e (dBin bFdiv (.e (dFz (fCall S_law_falling_d92b (aCons (.e (dVar 1)) (aCons (.e (dBin bAdd (.s 4) (.e (dC (.int 1))))) aNil))))) (.e (dFz (fCall S_law_falling_d92b (aCons (.e (dBin bAdd (.s 4) (.e (dC (.int 1))))) (aCons (.e (dBin bAdd (.s 4) (.e (dC (.int 1))))) aNil))))))))))))
    (sAsg 2 (fLc (iRg (aCons (.e (dBin bSub (.e (dBi bLen (aCons (.s 2) aNil))) (.e (dC (.int 1))))) aNil)) [6] (.nm 6) cYes (dBin bSub (.e (dBin bIx (.s 2) (.e (dBin bAdd (.s 6) (.e (dC (.int 1))))))) (.e (dBin bIx (.s 2) (.s 6))))))))
    (sRetV 3)))
theorem sp_lawsum (d : Nat) : ∀ args Q, (S_lawsum d).sp args Q → ir_law_sum_aa3b (S_worth d) S_falling (endsOf args Q) (rho0 N_law_sum_aa3b args) := by
  rintro args Q ⟨f, c, m, rfl, hl, ok, hm, hy, hdg, c0, hc, q⟩
  have sm : ∀ i : Nat, i < 17 → ((i : Nat) : Int).natAbs < 2 ^ m := fun i hi => Nat.lt_of_lt_of_le (show _ < 2 ^ 10 by omega) (Nat.pow_le_pow_right (by decide) hm)
  obtain ⟨g, hg⟩ : ∃ g : Nat → Int, g = fun x : Nat => f.val (x : Nat) 0 := ⟨_, rfl⟩
  refine ⟨by decide, ⟨rfl, rfl⟩, fun i acc ρ => acc = (List.range i).map (fun x => PyData.int (g x)) ∧ ρ = [some (.d f.pd), some (.d (.int c)), none, none, none, none, none], ⟨rfl, rfl⟩, fun _ _ _ _ => trivial, ?_, ?_⟩
  · rintro i x acc ρ hx ⟨rfl, rfl⟩
    obtain ⟨rfl, hi⟩ := rngD_get hx
    have hi : i < 17 := hi
    have e0 : (0 : Int) + (i : Nat) = (i : Nat) := by omega
    rw [e0]
    refine ⟨fun _ => ⟨rfl, f, _, 0, m, rfl, hl, ok, sm i hi, Nat.pow_pos (by decide), ?_, ?_, rfl⟩, nofun⟩
    · rw [List.length_map, List.length_range, sizeLine_eq]; omega
    · rw [← mapR_succ, hg]
      rfl
  · rintro acc ρ ⟨rfl, rfl⟩
    have el : (Wk.items (rngD 0 ((17 : Int)).toNat)).list.length = 17 := rngD_len
    rw [el]
    refine ⟨rfl, by decide, _, rfl, fun k ρ => ∃ (l : Lc) (t : Option Lc), ρ = [some (.d f.pd), some (.d (.int c)), some l, some (.d (.int (sumN k fun k => itN k g 0 * (fallI (c : Nat) (k + 1) / fallI ((k + 1 : Nat) : Int) (k + 1))))), t, none, none] ∧ (l = .d (.list ((List.range (17 - k)).map fun i => .int (itN k g i))) ∨ l = .ls none ((List.range (17 - k)).map fun i => .int (itN k g i))), ⟨_, none, rfl, .inl rfl⟩, ?_, ?_⟩
    · rintro k x ρ hx ⟨l, t, rfl, hll⟩
      obtain ⟨rfl, hk⟩ := rngD_get hx
      have hk : k < 17 := hk
      have e0 : (0 : Int) + (k : Nat) = (k : Nat) := by omega
      have e1 : ((k : Nat) : Int) + 1 = ((k + 1 : Nat) : Int) := by omega
      rw [e0]
      have dsm : (itN k g 0).natAbs < 2 ^ 100032 := by rw [hg, itN_dd]; exact FT.dd_small ok hm (by omega) (by decide)
      have at0' : atI ((List.range (17 - k)).map fun i => PyData.int (itN k g i)) 0 = some (.int (itN k g 0)) := atR (fun i => PyData.int (itN k g i)) (show 0 < 17 - k by omega)
      have len : ((List.range (17 - k)).map fun i => PyData.int (itN k g i)).length = 17 - k := by simp
      rcases hll with rfl | rfl
      all_goals
        refine ⟨_, at0', rfl, (c : Nat), k + 1, 111, by rw [← e1], by rw [Int.natAbs_natCast]; omega, by decide, by omega, by omega, rfl, ((k + 1 : Nat) : Int), k + 1, 10, by rw [← e1], by rw [Int.natAbs_natCast]; omega, by decide, by omega, by omega, ⟨fall_self_pos (k + 1), Nat.lt_trans (log2_lt (fac_log (by omega)) (by decide)) (by decide)⟩, mulOk 100032 3000 dsm (quo_small hc (by omega)), ?_⟩
        have tn : ((((List.range (17 - k)).map fun i => PyData.int (itN k g i)).length : Nat) : Int) - 1 = ((16 - k : Nat) : Int) := by rw [len]; omega
        refine ⟨by rw [len]; omega, ⟨rfl, rfl⟩, fun i acc ρ => acc = (List.range i).map (fun i => PyData.int (itN (k + 1) g i)) ∧ ρ = _, ⟨rfl, rfl⟩, fun _ _ _ _ => trivial, ?_, ?_⟩
        · rintro i y acc ρ hy ⟨rfl, rfl⟩
          obtain ⟨rfl, hi⟩ := rngD_get hy
          have hi : i < (((((List.range (17 - k)).map fun i => PyData.int (itN k g i)).length : Nat) : Int) - 1).toNat := hi
          rw [tn] at hi
          have hi : i < 16 - k := hi
          have f0 : (0 : Int) + (i : Nat) = (i : Nat) := by omega
          rw [f0]
          refine ⟨fun _ => ⟨.int (itN k g (i + 1)), atR (fun i => PyData.int (itN k g i)) (show i + 1 < 17 - k by omega), .int (itN k g i), atR (fun i => PyData.int (itN k g i)) (show i < 17 - k by omega), ?_, ?_, rfl⟩, nofun⟩
          · rw [List.length_map, List.length_range, sizeLine_eq]; omega
          · rw [← mapR_succ, itN_succ]
        · rintro acc ρ ⟨rfl, rfl⟩
          have el2 : (Wk.items (rngD 0 (((((List.range (17 - k)).map fun i => PyData.int (itN k g i)).length : Nat) : Int) - 1).toNat)).list.length = 17 - (k + 1) := by
            rw [tn]
            show (rngD 0 ((16 - k : Nat) : Int).toNat).length = _
            rw [rngD_len]; omega
          rw [el2]
          exact ⟨_, _, rfl, .inr rfl⟩
    · rintro ρ ⟨l, t, rfl, hll⟩
      have el : (rngD 0 ((17 : Int)).toNat).length = 17 := rngD_len
      rw [el]
      have e : (sumN 17 fun k => itN k g 0 * (fallI (c : Nat) (k + 1) / fallI ((k + 1 : Nat) : Int) (k + 1))) = totF (fun u v => f.val u v) c := by
        rw [totF_parts hy, hg]
        exact sumN_congr fun k _ => by rw [itN_dd]
      rw [e]
      exact q
end DL
/-! The data layer, part q: three names at once. -/
namespace DL
open PySem L2 PyProof.Rows
section
variable {X : Cx} {e e2 e3 : Expr} {pos : Pos} {ta tb tc : TD}
def sPar3 (i j l : Nat) (t u w : TD) : TSt := fun D ρ => t ρ fun x ρ1 => u ρ1 fun y ρ2 => w ρ2 fun z ρ3 => D.nx (((ρ3.set i (some (.d x))).set j (some (.d y))).set l (some (.d z)))
theorem LS.par3 {i j l : Nat} {x y z : Str} {px py pz pt pt2 : Pos} {kt k2 : Nat} (hc : X.calm = true) (hN : X.N.Nodup) (hi : X.N[i]? = some x) (hj : X.N[j]? = some y) (hl : X.N[l]? = some z) (hij : i ≠ j) (hil : i ≠ l) (hjl : j ≠ l)
    (hx : X.env.scope.names.lookup x = some .local) (hy : X.env.scope.names.lookup y = some .local) (hz : X.env.scope.names.lookup z = some .local) (h1 : LD X e ta) (h2 : LD X e2 tb) (h3 : LD X e3 tc)
    (hw : swappedStores [.Tuple [.Name x px, .Name y py, .Name z pz] kt pt] (.Tuple [e, e2, e3] k2 pt2) X.env = pure (some [x, y, z]))
    (hs : swapsWithSole [.Tuple [.Name x px, .Name y py, .Name z pz] kt pt] (.Tuple [e, e2, e3] k2 pt2) pos.line X.env = pure false := by rfl)
    (g1 : starEach [e, e2, e3] X.env = (false, eval e X.env) :: starEach [e2, e3] X.env := by rfl) (g2 : starEach [e2, e3] X.env = (false, eval e2 X.env) :: starEach [e3] X.env := by rfl) (g3 : starEach [e3] X.env = (false, eval e3 X.env) :: starEach [] X.env := by rfl) :
    LS X (.Assign [.Tuple [.Name x px, .Name y py, .Name z pz] kt pt] (.Tuple [e, e2, e3] k2 pt2) pos) (sPar3 i j l ta tb tc) :=
  ⟨psImp (ps_par3 hc hN hi hj hl hij hil hjl hx hy hz (pa_cons h1.p (pa_cons h2.p (pa_cons h3.p pa_nil g3) g2) g1) hw hs) fun D σ H ⟨G, ρ, F, D', R, q, k⟩ =>
    ⟨G, ρ, F, _, R, q, fun x ρ1 v H1 F1 h1 R1 s1 d1 => ⟨G, ρ1, F1, _, R1, h1, fun y ρ2 w H2 F2 h2 R2 s2 d2 => ⟨G, ρ2, F2, _, R2, h2, fun z ρ3 u H3 F3 h3 R3 s3 d3 =>
      ⟨v, w, u, rfl, k.nx _ _ _ _ h3 (((R3.store_d i (d1.mono (s2.trans s3))).store_d j (d2.mono s3)).store_d l d3) (s1.trans (s2.trans s3))⟩⟩⟩⟩⟩
end
end DL
/-! The data layer, part r: a list's items into names. -/
namespace DL
open PySem L2 PyProof.Rows
section
variable {X : Cx} {e : Expr} {pos : Pos} {ta : TD}
def sUnl (is : List Nat) (t : TD) : TSt := fun D ρ => t ρ fun x ρ1 => match x with
  | .list xs => xs.length = is.length ∧ D.nx (setAll ρ1 is xs)
  | _ => False
theorem LS.unl {tg : Expr} {is : List Nat} (hg : PG X tg (gUnl X.K is.length (gNames is))) (h : LD X e ta) (hs : swapsWithSole [tg] e pos.line X.env = pure false := by rfl) (hw : swappedStores [tg] e X.env = pure none := by rfl)
    (h1 : (assignEach [tg] X.env).map (·.2) = [assign tg X.env] := by rfl) : LS X (.Assign [tg] e pos) (sUnl is ta) := ⟨psImp (ps_asg h.p hg hs hw h1) fun D σ H ⟨G, ρ, F, D', R, q, k⟩ =>
  ⟨G, ρ, F, _, R, q, fun x ρ1 v H1 F1 h1 R1 s1 d => by
    cases d <;> first | exact False.elim h1 | skip
    rename_i a vs xs hq ds
    obtain ⟨h2, h3⟩ := h1
    exact ⟨a, vs, rfl, rdSq (rdM R1.fh hq), by rw [ds.length]; exact h2, names_go (fun i hi => hi) R1 ds h2 fun σ2 R2 _ => k.nx _ _ _ _ h3 R2 s1⟩⟩⟩
end
end DL
/-! The data layer, part s: a value of any depth among a tuple's items. -/
namespace DL
open PySem L2 PyProof.Rows
section
variable {X : Cx} {K : PySem.W.Frag} {F H : Hp}
/-- in, not in a tuple of items of a small depth -/
def cInT (neg : Bool) : F2 := fun x y k => shp x ∧ ∃ ys, y = .tuple ys ∧ shp (.tuple ys) ∧ PyData.depthAll ys ≤ 5 ∧ k (.bool (if neg then !(ys.any fun z => PyData.eqv z x) else ys.any fun z => PyData.eqv z x))
def rInT (K : PySem.W.Frag) (neg : Bool) : R2 := fun x y H Q => ∃ e es, (Dp K H x e ∧ SeqAt.shaped e = true) ∧ (Dp K H y (.tuple es) ∧ SeqAt.shaped (.tuple es) = true) ∧ PyData.depthAll es ≤ 5 ∧ Q (.bl (if neg then !(es.any fun z => PyData.eqv z e) else es.any fun z => PyData.eqv z e)) H
theorem op_inT (hu : X.A.units + 64 < cLine) : OpR X (compareOp .In) (rInT X.K false) := by
  rintro pins s σ H x y v u Q I rx ry ⟨e, es, ⟨p1, s1⟩, ⟨p2, s2⟩, hd, q⟩
  obtain ⟨ns, w1⟩ := Dp.reads I e x v p1 rx
  obtain ⟨ms, w2⟩ := Dp.reads I (.tuple es) y u p2 ry
  refine SeqAt.in_tuple_reads w2 w1 (SeqAt.canLay_of_shaped s2) (SeqAt.canLay_of_shaped s1) ?_ ⟨.bl _, H, I, rfl, q⟩
  have := Nat.min_le_left (PyData.depthAll es) e.depth
  omega
theorem op_notInT (hu : X.A.units + 64 < cLine) : OpR X (compareOp .NotIn) (rInT X.K true) := by
  rintro pins s σ H x y v u Q I rx ry ⟨e, es, ⟨p1, s1⟩, ⟨p2, s2⟩, hd, q⟩
  obtain ⟨ns, w1⟩ := Dp.reads I e x v p1 rx
  obtain ⟨ms, w2⟩ := Dp.reads I (.tuple es) y u p2 ry
  refine SeqAt.notIn_tuple_reads w2 w1 (SeqAt.canLay_of_shaped s2) (SeqAt.canLay_of_shaped s1) ?_ ⟨.bl _, H, I, rfl, q⟩
  have := Nat.min_le_left (PyData.depthAll es) e.depth
  omega
theorem ok_inT (neg : Bool) : Op2Ok K (cInT neg) (rInT K neg) := by
  rintro F H vx vy x y k Q s dx dy ⟨sx, ys, rfl, sy, hd, h⟩ c
  exact ⟨x, ys, ⟨(dx.df s).dp sx.2, sx.1⟩, ⟨(dy.df s).dp sy.2, sy.1⟩, hd, c _ _ F H h (Grow.refl s) (.bl _)⟩
end
end DL
namespace DL
open PySem L2 PyProof.Rows
/-! totals over both letters -/
abbrev N_law_differences_931d : List Str := ["row", "found", "at"]
def ir_law_differences_931d : TSt :=
  (sSeq (sAsg 1 (fLst aNil))
    (sSeq (sWhile (tVal (dBin cNe (.s 0) (.e (dFz (fLst aNil))))) (sSeq (sApp 1 (dBin bIx (.s 0) (.e (dC (.int 0)))))
    (sAsg 0 (fLc (iRg (aCons (.e (dBin bSub (.e (dBi bLen (aCons (.s 0) aNil))) (.e (dC (.int 1))))) aNil)) [2] (.nm 2) cYes (dBin bSub (.e (dBin bIx (.s 0) (.e (dBin bAdd (.s 2) (.e (dC (.int 1))))))) (.e (dBin bIx (.s 0) (.s 2))))))))
    (sRetV 1)))
theorem sp_ldiff : ∀ args Q, S_differences.sp args Q → ir_law_differences_931d (endsOf args Q) (rho0 N_law_differences_931d args) := by
  rintro args Q ⟨ns, rfl, hlen, q⟩
  refine ⟨fun ρ => ∃ (ms fs : List Int) (l : Lc), ρ = [some l, some (.ls none (fs.map .int)), none] ∧ (l = .d (.list (ms.map .int)) ∨ l = .ls none (ms.map .int)) ∧ fs ++ diffs ms = diffs ns ∧ fs.length + ms.length ≤ 100000, lenAt 0, ⟨ns, [], _, rfl, .inl rfl, rfl, by simpa using hlen⟩, ?_⟩
  rintro ρ ⟨ms, fs, l, rfl, hl, hd, hb⟩
  have shpM : ∀ ms : List Int, shp (.list (ms.map PyData.int)) := fun ms => (Shp.list (n := 0) (Shp.ints ms)).shp
  have fin : ms = [] → Q (.d (.list (fs.map .int))) [] := fun e => by
    subst e
    have : fs = diffs ns := by rw [← hd]; simp [diffs, diffsF]
    rw [this]; exact q
  have nxt : ∀ (a : Int) (r : List Int), ms = a :: r → (fs ++ [a]) ++ diffs (stepL (a :: r)) = diffs ns ∧ (fs ++ [a]).length + (stepL (a :: r)).length ≤ 100000 := fun a r e => by
    subst e
    refine ⟨?_, ?_⟩
    · rw [← hd]
      unfold diffs
      rw [stepL_len, List.length_cons, diffsF, List.append_assoc]
      rfl
    · rw [stepL_len, List.length_append]
      simp at hb ⊢
      omega
  have pre : ∀ (a : Int) (r : List Int) (i : Nat), i < r.length → ∃ u v : Int, atI ((a :: r).map PyData.int) ((i : Nat) : Int) = some (.int u) ∧ atI ((a :: r).map PyData.int) ((i + 1 : Nat) : Int) = some (.int v) ∧ (stepL (a :: r))[i]? = some (v - u) := fun a r i h => by
    have h2 : i < (a :: r).length := by rw [List.length_cons]; omega
    have e1 : (a :: r)[i]? = some ((a :: r)[i]) := List.getElem?_eq_getElem h2
    have e2 : r[i]? = some (r[i]) := List.getElem?_eq_getElem h
    refine ⟨(a :: r)[i], r[i], atI_nat (by rw [List.getElem?_map, e1]; rfl), atI_nat (by rw [List.getElem?_map, List.getElem?_cons_succ, e2]; rfl), ?_⟩
    unfold stepL
    rw [List.tail_cons, List.getElem?_zipWith, e1, e2]
  have emp : ∀ ms : List Int, (!PyData.eqv (.list (ms.map PyData.int)) (.list [])) = true → ∃ a r, ms = a :: r := fun ms h => by
    cases ms with
    | nil => simp [eqv_nil] at h
    | cons a r => exact ⟨a, r, rfl⟩
  have emp2 : ∀ ms : List Int, (!PyData.eqv (.list (ms.map PyData.int)) (.list [])) = false → ms = [] := fun ms h => by
    cases ms with
    | nil => rfl
    | cons a r => simp [eqv_nil] at h
  rcases hl with rfl | rfl
  all_goals
    refine ⟨shpM ms, ⟨rfl, rfl⟩, fun h => ?_, fun h => ?_⟩
    · obtain ⟨a, r, e⟩ := emp ms h
      subst e
      obtain ⟨n1, n2⟩ := nxt a r rfl
      refine ⟨.int a, at0 _ _, ?_, ?_⟩
      · rw [List.length_map, sizeLine_eq]; simp at hb; omega
      have tn : ((((a :: r).map PyData.int).length : Nat) : Int) - 1 = ((r.length : Nat) : Int) := by rw [List.length_map, List.length_cons]; omega
      have rl : r.length ≤ 100000 := by simp at hb; omega
      refine ⟨by rw [tn]; omega, ⟨rfl, rfl⟩, fun i acc ρ => acc = ((stepL (a :: r)).take i).map .int ∧ ρ = _, ⟨rfl, rfl⟩, fun _ _ _ _ => trivial, ?_, ?_⟩
      · rintro i x acc ρ hx ⟨rfl, rfl⟩
        obtain ⟨rfl, hi⟩ := rngD_get hx
        have hi : i < (((((a :: r).map PyData.int).length : Nat) : Int) - 1).toNat := hi
        rw [tn] at hi
        have hi : i < r.length := hi
        obtain ⟨u, v, g1, g2, hs⟩ := pre a r i hi
        have f0 : (0 : Int) + (i : Nat) = (i : Nat) := by omega
        rw [f0]
        refine ⟨fun _ => ⟨.int v, g2, .int u, g1, ?_, ?_, rfl⟩, nofun⟩
        · rw [List.length_map, List.length_take, sizeLine_eq]; omega
        · rw [List.take_add_one, hs, Option.toList_some, List.map_append]
          rfl
      · rintro acc ρ ⟨rfl, rfl⟩
        have el : (Wk.items (rngD 0 (((((a :: r).map PyData.int).length : Nat) : Int) - 1).toNat)).list.length = (stepL (a :: r)).length := by
          rw [tn, stepL_len]
          show (rngD 0 ((r.length : Nat) : Int).toNat).length = _
          rw [rngD_len]; omega
        rw [el, List.take_length]
        refine ⟨⟨stepL (a :: r), fs ++ [a], _, by rw [List.map_append]; rfl, .inr rfl, n1, n2⟩, ?_⟩
        show ((stepL (a :: r)).map PyData.int).length < ((a :: r).map PyData.int).length
        rw [List.length_map, List.length_map, stepL_len]
        exact Nat.lt_succ_self _
    · have := fin (emp2 ms h)
      exact .inr ⟨rfl, this⟩
/-- a row's sums, by the law -/
def tms (c k : Nat) : Int := fallI (c : Nat) (k + 1) / fallI ((k + 1 : Nat) : Int) (k + 1)
theorem tms_eq (c k : Nat) : fallI (k : Nat) k * tms c k = sumF c k := by
  obtain ⟨b, hb⟩ := fac_dvd (k + 1) c
  have p1 := fall_self_pos (k + 1)
  unfold tms sumF
  rw [hb, Int.mul_ediv_cancel_left _ (Int.ne_of_gt p1), fall_fact k, show ((k + 1 : Nat) : Int) = (k : Int) + 1 by omega, Int.mul_assoc ((k : Int) + 1), Int.mul_ediv_cancel_left _ (by omega)]
def S_times : FSpec := ⟨fun args Q => ∃ c k : Nat, args = [.d (.int c), .d (.int k)] ∧ c < 2 ^ 110 ∧ k ≤ 16 ∧ Q (.d (.int (tms c k))) []⟩
abbrev N_law_times_1ebf : List Str := ["clock", "k"]
def ir_law_times_1ebf (S_law_falling_d92b : FSpec) : TSt :=
  (sRet (fD (dBin bFdiv (.e (dFz (fCall S_law_falling_d92b (aCons (.e (dVar 0)) (aCons (.e (dBin bAdd (.s 1) (.e (dC (.int 1))))) aNil))))) (.e (dFz (fCall S_law_falling_d92b (aCons (.e (dBin bAdd (.s 1) (.e (dC (.int 1))))) (aCons (.e (dBin bAdd (.s 1) (.e (dC (.int 1))))) aNil))))))))
theorem sp_times : ∀ args Q, S_times.sp args Q → ir_law_times_1ebf S_falling (endsOf args Q) (rho0 N_law_times_1ebf args) := by
  rintro args Q ⟨c, k, rfl, hc, hk, q⟩
  have e1 : ((k : Nat) : Int) + 1 = ((k + 1 : Nat) : Int) := by omega
  exact ⟨rfl, (c : Nat), k + 1, 111, by rw [← e1], by rw [Int.natAbs_natCast]; omega, by decide, by omega, by omega, rfl, ((k + 1 : Nat) : Int), k + 1, 10, by rw [← e1], by rw [Int.natAbs_natCast]; omega, by decide, by omega, by omega, ⟨fall_self_pos (k + 1), Nat.lt_trans (log2_lt (fac_log (by omega)) (by decide)) (by decide)⟩, q⟩
def totB (f : F2I) (c : Nat) : Int := ((rD f 17).map fun t => t.2.2 * sumF c t.1 * sumF c t.2.1).sum
theorem totB_rows (f : F2I) (c : Nat) : totB f c = sumN 17 fun i => sumN 17 fun j => cof f i j * (sumF c i * sumF c j) := by
  rw [← rD_sum f (fun i j => sumF c i * sumF c j)]
  unfold totB
  congr 1
  exact List.map_congr_left fun t _ => Int.mul_assoc ..
/-- .. is the sum over all pairs of hours -/
theorem totB_sum {f : FT} (hd : f.deg ≤ 16) (c : Nat) : totB (fun u v => f.val u v) c = sumN c fun x => sumN c fun y => f.val (x : Nat) (y : Nat) := by
  obtain ⟨F, hF⟩ : ∃ F : F2I, F = fun u v => f.val u v := ⟨_, rfl⟩
  have pol : Pol f.deg F := by rw [hF]; exact f.pol
  have w : ∀ x y : Int, F x y = sumN 17 fun i => sumN 17 fun j => cof F i j * fallI x i * fallI y j := fun x y => pol.whole (by omega) x y
  have in1 : ∀ x : Int, (sumN c fun y => F x (y : Nat)) = sumN 17 fun i => sumN 17 fun j => fallI x i * (cof F i j * sumF c j) := fun x => by
    rw [sumN_congr fun y _ => w x (y : Nat), sumN_swap]
    refine sumN_congr fun i _ => ?_
    rw [sumN_swap]
    refine sumN_congr fun j _ => ?_
    rw [sumN_mul, ← sumF_eq]
    grind
  rw [← hF, totB_rows]
  symm
  show (sumN c fun x => sumN c fun y => (fun u v => f.val u v) (x : Nat) (y : Nat)) = _
  rw [← hF, sumN_congr (n := c) fun x _ => in1 (x : Nat), sumN_swap]
  refine sumN_congr fun i _ => ?_
  rw [sumN_swap]
  refine sumN_congr fun j _ => ?_
  have e : (fun x : Nat => fallI (x : Nat) i * (cof F i j * sumF c j)) = fun x : Nat => (cof F i j * sumF c j) * fallI (x : Nat) i := funext fun x => Int.mul_comm ..
  rw [e, sumN_mul, ← sumF_eq]
  grind
theorem totB_parts {f : F2I} {d : Nat} (pol : Pol d f) (c : Nat) : totB f c = sumN 17 fun j => sumN 17 fun i => dd i j f * tms c i * tms c j := by
  rw [totB_rows, sumN_swap]
  refine sumN_congr fun j _ => sumN_congr fun i _ => ?_
  rw [← tms_eq, ← tms_eq, ← cof_mul pol i j]
  unfold fac2
  grind
def S_both (d : Nat) : FSpec := ⟨fun args Q => ∃ (f : FT) (c m : Nat), args = [.d f.pd, .d (.int c)] ∧ f.lev ≤ d ∧ f.ok m ∧ 10 ≤ m ∧ 0 < c ∧ c < 2 ^ 110 ∧ Q (.d (.int (totB (fun u v => f.val u v) c % c))) []⟩
abbrev N_total_both : List Str := ["formula", "clock", "i", "j", "c"]
def ir_total_both (S_rows_of : FSpec) (S_sum_of : FSpec) : TSt :=
  (sRet (fD (dBin bMod (.e (dBi bSum (aCons (.e (dFz (fLc (iSeq (dFz (fCall S_rows_of (aCons (.e (dVar 0)) aNil)))) [2, 3, 4] (.tp [2, 3, 4]) cYes (dBin bMulI (.e (dBin bMulI (.s 4) (.e (dFz (fCall S_sum_of (aCons (.e (dVar 1)) (aCons (.e (dVar 2)) aNil))))))) (.e (dFz (fCall S_sum_of (aCons (.e (dVar 1)) (aCons (.e (dVar 3)) aNil))))))))) aNil))) (.s 1))))
theorem sp_total_both (d : Nat) : ∀ args Q, (S_both d).sp args Q → ir_total_both (S_rows d) S_sumof (endsOf args Q) (rho0 N_total_both args) := by
  rintro args Q ⟨f, c, m, rfl, hl, ok, hm, c0, hc, q⟩
  obtain ⟨F, hF⟩ : ∃ F : F2I, F = fun u v => f.val u v := ⟨_, rfl⟩
  rw [← hF] at q
  have pol : Pol f.deg F := by rw [hF]; exact f.pol
  have sm : ∀ {i j : Nat}, i ≤ 16 → j ≤ 16 → (cof F i j).natAbs < 2 ^ 100032 := fun hi hj => cof_small pol (by rw [hF]; exact FT.dd_small ok hm hi hj)
  have s2 : ∀ {k : Nat}, k ≤ 16 → (sumF c k).natAbs < 2 ^ 3000 := fun hk => Nat.lt_of_lt_of_le (sumF_small hc (by omega)) (Nat.pow_le_pow_right (by decide) (by omega))
  refine ⟨rfl, f, m, rfl, hl, ok, hm, ⟨rfl, rfl⟩, fun i acc ρ => acc = ((rD F 17).take i).map (fun t => PyData.int (t.2.2 * sumF c t.1 * sumF c t.2.1)) ∧ ρ = [some (.d f.pd), some (.d (.int c)), none, none, none], ⟨rfl, rfl⟩, fun _ _ _ _ => trivial, ?_, ?_⟩
  · rintro i x acc ρ hx ⟨rfl, rfl⟩
    rw [← hF] at hx
    have hx : ((rD F 17).map rowP)[i]? = some x := hx
    rw [List.getElem?_map] at hx
    obtain ⟨t, ht, rfl⟩ := Option.map_eq_some_iff.mp hx
    obtain ⟨t1, t2, t3, _⟩ := rD_mem (List.mem_of_getElem? ht)
    have m1 : t.2.2.natAbs < 2 ^ 100032 := by rw [t3]; exact sm (by omega) (by omega)
    refine ⟨rfl, fun _ => ⟨rfl, c, t.1, rfl, hc, by omega, mulOk 100032 3000 m1 (s2 (by omega)) (by decide) (by decide) (by decide), rfl, c, t.2.1, rfl, hc, by omega, mulOk 103032 3000 (two_mul m1 (s2 (by omega)) (by decide)) (s2 (by omega)) (by decide) (by decide) (by decide), ?_, ?_, rfl⟩, nofun⟩
    · have := rD_len F 17
      rw [List.length_map, List.length_take, sizeLine_eq]; omega
    · rw [List.take_add_one, ht, Option.toList_some, List.map_append]
      rfl
  · rintro acc ρ ⟨rfl, rfl⟩
    have el : (Wk.items ((rD F 17).map rowP)).list.length = (rD F 17).length := List.length_map _
    rw [← hF, el, List.take_length]
    exact ⟨(rD F 17).map (fun t : T3 => t.2.2 * sumF c t.1 * sumF c t.2.1), by rw [List.map_map]; rfl, by omega, q⟩
/-! the law's two ways -/
def S_walked (d : Nat) : FSpec := ⟨fun args Q => ∃ (f : FT) (c m : Nat), args = [.d f.pd, .d (.int c)] ∧ f.lev ≤ d ∧ f.ok m ∧ 10 ≤ m ∧ c ≤ 1000 ∧ Q (.d (.int (sumN c fun x => sumN c fun y => f.val (x : Nat) (y : Nat)))) []⟩
theorem sum_range (g : Nat → Int) : ∀ n : Nat, ((List.range n).map g).sum = sumN n g
  | 0 => rfl
  | n + 1 => by rw [List.range_succ, List.map_append, List.sum_append, sum_range g n, sumN]; simp
abbrev N_law_walked_3d34 : List Str := ["formula", "clock", "found", "x", "y"]
def ir_law_walked_3d34 (S_law_worth_98b9 : FSpec) : TSt :=
  (sSeq (sAsg 2 (fD (dC (.int 0))))
    (sSeq (sFor (iRg (aCons (.s 1) aNil)) (.nm 3) (sAsg 2 (fD (dBin bAdd (.s 2) (.e (dBi bSum (aCons (.e (dFz (fLc (iRg (aCons (.s 1) aNil)) [4] (.nm 4) cYes (dFz (fCall S_law_worth_98b9 (aCons (.e (dVar 0)) (aCons (.e (dVar 3)) (aCons (.e (dVar 4)) aNil)))))))) aNil)))))))
    (sRetV 2)))
theorem sp_walked (d : Nat) : ∀ args Q, (S_walked d).sp args Q → ir_law_walked_3d34 (S_worth d) (endsOf args Q) (rho0 N_law_walked_3d34 args) := by
  rintro args Q ⟨f, c, m, rfl, hl, ok, hm, hc, q⟩
  have sm : ∀ i : Nat, i < 1000 → ((i : Nat) : Int).natAbs < 2 ^ m := fun i hi => Nat.lt_of_lt_of_le (show _ < 2 ^ 10 by omega) (Nat.pow_le_pow_right (by decide) hm)
  refine ⟨by omega, _, rfl, fun i ρ => ∃ t, ρ = [some (.d f.pd), some (.d (.int c)), some (.d (.int (sumN i fun x => sumN c fun y => f.val (x : Nat) (y : Nat)))), t, none], ⟨none, rfl⟩, ?_, ?_⟩
  · rintro i x ρ hx ⟨t, rfl⟩
    obtain ⟨rfl, hi⟩ := rngD_get hx
    have hi : i < c := hi
    have e0 : (0 : Int) + (i : Nat) = (i : Nat) := by omega
    rw [e0]
    refine ⟨by omega, ⟨rfl, rfl⟩, fun j acc ρ => acc = (List.range j).map (fun y => PyData.int (f.val (i : Nat) (y : Nat))) ∧ ρ = _, ⟨rfl, rfl⟩, fun _ _ _ _ => trivial, ?_, ?_⟩
    · rintro j y acc ρ hy ⟨rfl, rfl⟩
      obtain ⟨rfl, hj⟩ := rngD_get hy
      have hj : j < c := hj
      have f0 : (0 : Int) + (j : Nat) = (j : Nat) := by omega
      rw [f0]
      refine ⟨fun _ => ⟨rfl, f, _, _, m, rfl, hl, ok, sm i (by omega), sm j (by omega), ?_, ?_, rfl⟩, nofun⟩
      · rw [List.length_map, List.length_range, sizeLine_eq]; omega
      · exact mapR_succ (fun y => PyData.int (f.val (i : Nat) (y : Nat))) j
    · rintro acc ρ ⟨rfl, rfl⟩
      have el : (Wk.items (rngD 0 ((c : Nat) : Int).toNat)).list.length = c := rngD_len
      rw [el]
      refine ⟨(List.range c).map fun y => f.val (i : Nat) (y : Nat), ints_of _ _, ?_⟩
      rw [sum_range]
      exact ⟨_, rfl⟩
  · rintro ρ ⟨t, rfl⟩
    have el : (rngD 0 ((c : Nat) : Int).toNat).length = c := rngD_len
    rw [el]
    exact q
def S_lsum (d : Nat) : FSpec := ⟨fun args Q => ∃ (f : FT) (c m : Nat), args = [.d f.pd, .d (.int c)] ∧ f.lev ≤ d ∧ f.ok m ∧ 10 ≤ m ∧ 0 < c ∧ c < 2 ^ 110 ∧ Q (.d (.int (totB (fun u v => f.val u v) c))) []⟩
abbrev N_law_sum_ab53 : List Str := ["formula", "clock", "lines", "found", "x", "j", "i", "number", "y", "line"]
def ir_law_sum_ab53 (S_law_differences_931d : FSpec) (S_law_worth_98b9 : FSpec) (S_law_times_1ebf : FSpec) : TSt :=
  (sSeq (sPar 2 3 (fLst aNil) (fD (dC (.int 0))))
    (sSeq (sFor (iRg (aCons (.e (dC (.int 17))) aNil)) (.nm 4) (sApp 2 (dFz (fCall S_law_differences_931d (aCons (.e (dFz (fLc (iRg (aCons (.e (dC (.int 17))) aNil)) [8] (.nm 8) cYes (dFz (fCall S_law_worth_98b9 (aCons (.e (dVar 0)) (aCons (.e (dVar 4)) (aCons (.e (dVar 8)) aNil)))))))) aNil)))))
    (sSeq (sFor (iRg (aCons (.e (dC (.int 17))) aNil)) (.nm 5) (sFor (iEnm (dFz (fCall S_law_differences_931d (aCons (.e (dFz (fLc (iOwn 2) [9] (.nm 9) cYes (dBin bIx (.s 9) (.s 5))))) aNil)))) (.tp [6, 7]) (sAsg 3 (fD (dBin bAdd (.s 3) (.e (dBin bMulI (.e (dBin bMulI (.s 7) (.e (dFz (fCall S_law_times_1ebf (aCons (.e (dVar 1)) (aCons (.e (dVar 6)) aNil))))))) (.e (dFz (fCall S_law_times_1ebf (aCons (.e (dVar 1)) (aCons (.e (dVar 5)) aNil))))))))))))
    (sRetV 3))))
theorem tms_small {c k : Nat} (hc : c < 2 ^ 110) (hk : k ≤ 16) : (tms c k).natAbs < 2 ^ 3000 := quo_small hc hk
theorem sp_lsum (d : Nat) : ∀ args Q, (S_lsum d).sp args Q → ir_law_sum_ab53 S_differences (S_worth d) S_times (endsOf args Q) (rho0 N_law_sum_ab53 args) := by
  rintro args Q ⟨f, c, m, rfl, hl, ok, hm, c0, hc, q⟩
  have sm : ∀ i : Nat, i < 17 → ((i : Nat) : Int).natAbs < 2 ^ m := fun i hi => Nat.lt_of_lt_of_le (show _ < 2 ^ 10 by omega) (Nat.pow_le_pow_right (by decide) hm)
  have szl : ∀ n : Nat, n < 17 → n < sizeLine := fun n h => by rw [sizeLine_eq]; omega
  have difY : ∀ i : Nat, diffs ((List.range 17).map fun y => f.val (i : Nat) (y : Nat)) = (List.range 17).map fun j => itY j (fun u v => f.val u v) (i : Nat) 0 := fun i => by
    rw [diffs_range]
    exact List.map_congr_left fun j _ => itN_itY (i : Nat) j (fun u v => f.val u v) 0
  have difX : ∀ j : Nat, diffs ((List.range 17).map fun x => itY j (fun u v => f.val u v) (x : Nat) 0) = (List.range 17).map fun i => dd i j (fun u v => f.val u v) := fun j => by
    rw [diffs_range]
    exact List.map_congr_left fun i _ => itN_itX 0 i (itY j fun u v => f.val u v) 0
  obtain ⟨ln, hln⟩ : ∃ ln : Nat → PD, ln = fun x => .list ((List.range 17).map fun j => .int (itY j (fun u v => f.val u v) (x : Nat) 0)) := ⟨_, rfl⟩
  refine ⟨by decide, _, rfl, fun i ρ => ∃ t, ρ = [some (.d f.pd), some (.d (.int c)), some (.ls none ((List.range i).map ln)), some (.d (.int 0)), t, none, none, none, none, none], ⟨none, rfl⟩, ?_, ?_⟩
  · rintro i x ρ hx ⟨t, rfl⟩
    obtain ⟨rfl, hi⟩ := rngD_get hx
    have hi : i < 17 := hi
    have e0 : (0 : Int) + (i : Nat) = (i : Nat) := by omega
    rw [e0]
    refine ⟨by decide, ⟨rfl, rfl⟩, fun j acc ρ => acc = (List.range j).map (fun y => PyData.int (f.val (i : Nat) (y : Nat))) ∧ ρ = _, ⟨rfl, rfl⟩, fun _ _ _ _ => trivial, ?_, ?_⟩
    · rintro j y acc ρ hy ⟨rfl, rfl⟩
      obtain ⟨rfl, hj⟩ := rngD_get hy
      have hj : j < 17 := hj
      have f0 : (0 : Int) + (j : Nat) = (j : Nat) := by omega
      rw [f0]
      refine ⟨fun _ => ⟨rfl, f, _, _, m, rfl, hl, ok, sm i hi, sm j hj, ?_, ?_, rfl⟩, nofun⟩
      · rw [List.length_map, List.length_range]; exact szl j hj
      · exact mapR_succ (fun y => PyData.int (f.val (i : Nat) (y : Nat))) j
    · rintro acc ρ ⟨rfl, rfl⟩
      have el : (Wk.items (rngD 0 ((17 : Int)).toNat)).list.length = 17 := rngD_len
      rw [el]
      refine ⟨rfl, (List.range 17).map fun y => f.val (i : Nat) (y : Nat), by rw [← ints_of]; rfl, by simp, ?_⟩
      rw [difY, ← ints_of]
      refine ⟨?_, some (.d (.int (i : Nat))), ?_⟩
      · rw [List.length_map, List.length_range]; exact szl i hi
      · rw [← mapR_succ ln i, hln]
        rfl
  · rintro ρ ⟨t0, rfl⟩
    have el : (rngD 0 ((17 : Int)).toNat).length = 17 := rngD_len
    rw [el]
    obtain ⟨D, hD⟩ : ∃ D : Nat → Nat → Int, D = fun i j => dd i j (fun u v => f.val u v) := ⟨_, rfl⟩
    have dsm : ∀ {i j : Nat}, i ≤ 16 → j ≤ 16 → (D i j).natAbs < 2 ^ 100032 := fun hi hj => by rw [hD]; exact FT.dd_small ok hm hi hj
    refine ⟨by decide, _, rfl, fun j ρ => ∃ t s6 s7, ρ = [some (.d f.pd), some (.d (.int c)), some (.ls none ((List.range 17).map ln)), some (.d (.int (sumN j fun j => sumN 17 fun i => D i j * tms c i * tms c j))), t0, t, s6, s7, none, none], ⟨none, none, none, rfl⟩, ?_, ?_⟩
    · rintro j x ρ hx ⟨t, s6, s7, rfl⟩
      obtain ⟨rfl, hj⟩ := rngD_get hx
      have hj : j < 17 := hj
      have e0 : (0 : Int) + (j : Nat) = (j : Nat) := by omega
      rw [e0]
      refine ⟨⟨rfl, rfl⟩, fun i acc ρ => acc = (List.range i).map (fun x => PyData.int (itY j (fun u v => f.val u v) (x : Nat) 0)) ∧ ρ = [some (.d f.pd), some (.d (.int c)), some (.ls none ((List.range 17).map ln)), some (.d (.int (sumN j fun j => sumN 17 fun i => D i j * tms c i * tms c j))), t0, some (.d (.int (j : Nat))), s6, s7, none, none], ⟨rfl, rfl⟩, ?_, ?_, ?_⟩
      · rintro i acc ρ ⟨_, rfl⟩
        rfl
      · rintro i y acc ρ hy ⟨rfl, rfl⟩
        have hy : ((List.range 17).map ln)[i]? = some y := hy
        rw [List.getElem?_map] at hy
        obtain ⟨i', hi', rfl⟩ := Option.map_eq_some_iff.mp hy
        have hi : i < 17 := by have := (List.getElem?_eq_some_iff.mp hi').1; simpa using this
        rw [List.getElem?_range hi] at hi'
        cases hi'
        rw [hln]
        refine ⟨fun _ => ⟨_, atR _ hj, ?_, ?_, rfl⟩, nofun⟩
        · rw [List.length_map, List.length_range]; exact szl i hi
        · exact mapR_succ (fun x => PyData.int (itY j (fun u v => f.val u v) (x : Nat) 0)) i
      · rintro acc ρ ⟨rfl, rfl⟩
        have el : (Wk.own 2 none ((List.range 17).map ln)).list.length = 17 := by show ((List.range 17).map ln).length = 17; simp
        rw [el]
        refine ⟨rfl, (List.range 17).map fun x => itY j (fun u v => f.val u v) (x : Nat) 0, by rw [← ints_of]; rfl, by simp, ?_⟩
        rw [difX, ← ints_of]
        have hDe : (fun i => PyData.int (dd i j fun u v => f.val u v)) = fun i => PyData.int (D i j) := by rw [hD]
        rw [hDe]
        refine ⟨_, rfl, fun i ρ => ∃ s6 s7, ρ = [some (.d f.pd), some (.d (.int c)), some (.ls none ((List.range 17).map ln)), some (.d (.int ((sumN j fun j => sumN 17 fun i => D i j * tms c i * tms c j) + sumN i fun i => D i j * tms c i * tms c j))), t0, some (.d (.int (j : Nat))), s6, s7, none, none], ⟨s6, s7, by rw [sumN, Int.add_zero]; rfl⟩, ?_, ?_⟩
        · rintro i y ρ hy ⟨s6, s7, rfl⟩
          obtain ⟨w, hw, rfl⟩ := enumD_inv hy
          rw [List.getElem?_map] at hw
          obtain ⟨i', hi', rfl⟩ := Option.map_eq_some_iff.mp hw
          have hi : i < 17 := by have := (List.getElem?_eq_some_iff.mp hi').1; simpa using this
          rw [List.getElem?_range hi] at hi'
          cases hi'
          refine ⟨rfl, rfl, c, i, rfl, hc, by omega, mulOk 100032 3000 (dsm (by omega) (by omega)) (tms_small hc (by omega)) (by decide) (by decide) (by decide), rfl, c, j, rfl, hc, by omega, mulOk 103032 3000 (two_mul (dsm (by omega) (by omega)) (tms_small hc (by omega)) (by decide)) (tms_small hc (by omega)) (by decide) (by decide) (by decide), some (.d (.int (i : Nat))), some (.d (.int (D i j))), ?_⟩
          rw [sumN, Int.add_assoc]
          rfl
        · rintro ρ ⟨s6, s7, rfl⟩
          have el : (enumD ((List.range 17).map fun i => PyData.int (D i j))).length = 17 := by rw [enumD_len]; simp
          rw [el]
          exact ⟨_, s6, s7, rfl⟩
    · rintro ρ ⟨t, s6, s7, rfl⟩
      have el : (rngD 0 ((17 : Int)).toNat).length = 17 := rngD_len
      rw [el]
      rw [totB_parts f.pol c] at q
      rw [hD]
      exact q
/-! letters exchanged -/
def FT.turn : FT → FT
  | int i => int i
  | x => y
  | y => x
  | add a b => add a.turn b.turn
  | sub a b => sub a.turn b.turn
  | mul a b => mul a.turn b.turn
  | pow a n => pow a.turn n
theorem FT.turn_val (u v : Int) : ∀ f : FT, f.turn.val u v = f.val v u
  | int _ => rfl
  | x => rfl
  | y => rfl
  | add a b => by simp only [turn, val]; rw [turn_val u v a, turn_val u v b]
  | sub a b => by simp only [turn, val]; rw [turn_val u v a, turn_val u v b]
  | mul a b => by simp only [turn, val]; rw [turn_val u v a, turn_val u v b]
  | pow a n => by simp only [turn, val]; rw [turn_val u v a]
theorem FT.turn_same : ∀ f : FT, f.turn.lev = f.lev ∧ f.turn.e = f.e ∧ f.turn.deg = f.deg ∧ ∀ m, f.turn.le m ↔ f.le m
  | int _ => ⟨rfl, rfl, rfl, fun _ => Iff.rfl⟩
  | x => ⟨rfl, rfl, rfl, fun _ => Iff.rfl⟩
  | y => ⟨rfl, rfl, rfl, fun _ => Iff.rfl⟩
  | add a b => by
    obtain ⟨a1, a2, a3, a4⟩ := turn_same a
    obtain ⟨b1, b2, b3, b4⟩ := turn_same b
    exact ⟨by simp only [turn, lev, a1, b1], by simp only [turn, e, a2, b2], by simp only [turn, deg, a3, b3], fun m => by simp only [turn, le, a4, b4]⟩
  | sub a b => by
    obtain ⟨a1, a2, a3, a4⟩ := turn_same a
    obtain ⟨b1, b2, b3, b4⟩ := turn_same b
    exact ⟨by simp only [turn, lev, a1, b1], by simp only [turn, e, a2, b2], by simp only [turn, deg, a3, b3], fun m => by simp only [turn, le, a4, b4]⟩
  | mul a b => by
    obtain ⟨a1, a2, a3, a4⟩ := turn_same a
    obtain ⟨b1, b2, b3, b4⟩ := turn_same b
    exact ⟨by simp only [turn, lev, a1, b1], by simp only [turn, e, a2, b2], by simp only [turn, deg, a3, b3], fun m => by simp only [turn, le, a4, b4]⟩
  | pow a n => by
    obtain ⟨a1, a2, a3, a4⟩ := turn_same a
    exact ⟨by simp only [turn, lev, a1], by simp only [turn, e, a2], by simp only [turn, deg, a3], fun m => by simp only [turn, le, a4]⟩
theorem FT.shpN : ∀ f : FT, Shp f.lev f.pd
  | int i => .int i
  | x => .str (by decide +kernel)
  | y => .str (by decide +kernel)
  | add a b => key a.shpN b.shpN (by decide +kernel)
  | sub a b => key a.shpN b.shpN (by decide +kernel)
  | mul a b => key a.shpN b.shpN (by decide +kernel)
  | pow a n => (Shp.tup (n := a.lev) fun w hw => by
      simp only [List.mem_cons, List.not_mem_nil, or_false] at hw
      rcases hw with rfl | rfl | rfl
      · exact .str (by decide +kernel)
      · exact a.shpN
      · exact .int _)
where
  key {p q : FT} {w : Str} (h1 : Shp p.lev p.pd) (h2 : Shp q.lev q.pd) (hw : PyData.canLay0 (.str w) = true) : Shp (max p.lev q.lev + 1) (.tuple [.str w, p.pd, q.pd]) := Shp.tup fun z hz => by
    simp only [List.mem_cons, List.not_mem_nil, or_false] at hz
    rcases hz with rfl | rfl | rfl
    · exact .str hw
    · exact h1.mono (Nat.le_max_left _ _)
    · exact h2.mono (Nat.le_max_right _ _)
def S_turned (d : Nat) : FSpec := ⟨fun args Q => ∃ f : FT, args = [.d f.pd] ∧ f.lev ≤ d ∧ d ≤ 60 ∧ Q (.d f.turn.pd) []⟩
theorem S_turned0 : ∀ args Q, ¬ (S_turned 0).sp args Q := by
  rintro args Q ⟨f, _, h, _⟩
  have := f.lev_pos
  omega
abbrev N_law_turned_9f3a : List Str := ["formula"]
def ir_law_turned_9f3a (S_law_turned_9f3a : FSpec) : TSt :=
  (sSeq (sIf (tVal (dBin (cInT false) (.s 0) (.e (dTup (aCons (.e (dC (.str "x"))) (aCons (.e (dC (.str "y"))) aNil)))))) (sRet (fD (dIte (tVal (dBin cEq (.s 0) (.e (dC (.str "x"))))) (dC (.str "y")) (dC (.str "x"))))) sNext)
    (sSeq (sIf (tNotD (tVal (dIsi "tuple" (.s 0)))) (sRetV 0) sNext)
    (sSeq (sIf (tVal (dBin cEq (.e (dBin bIx (.s 0) (.e (dC (.int 0))))) (.e (dC (.str "pow"))))) (sRet (fD (dTup (aCons (.e (dC (.str "pow"))) (aCons (.e (dFz (fCall S_law_turned_9f3a (aCons (.e (dBin bIx (.s 0) (.e (dC (.int 1))))) aNil)))) (aCons (.e (dBin bIx (.s 0) (.e (dC (.int 2))))) aNil)))))) sNext)
    (sRet (fD (dTup (aCons (.e (dBin bIx (.s 0) (.e (dC (.int 0))))) (aCons (.e (dFz (fCall S_law_turned_9f3a (aCons (.e (dBin bIx (.s 0) (.e (dC (.int 1))))) aNil)))) (aCons (.e (dFz (fCall S_law_turned_9f3a (aCons (.e (dBin bIx (.s 0) (.e (dC (.int 2))))) aNil)))) aNil)))))))))
theorem xy_shp : shp (.tuple [FT.x.pd, FT.y.pd]) := (Shp.tup (n := 1) fun z hz => by
  simp only [List.mem_cons, List.not_mem_nil, or_false] at hz
  rcases hz with rfl | rfl
  · exact FT.x.shpN
  · exact FT.y.shpN).shp
theorem sp_turned (d : Nat) : ∀ args Q, (S_turned (d + 1)).sp args Q → ir_law_turned_9f3a (S_turned d) (endsOf args Q) (rho0 N_law_turned_9f3a args) := by
  rintro args Q ⟨f, rfl, hl, h60, q⟩
  have sh : shp f.pd := (f.shpN.mono (by omega : f.lev ≤ 60)).shp
  cases f with
  | int i => exact ⟨sh, _, rfl, xy_shp, by decide, nofun, fun _ => ⟨rfl, fun _ => q, nofun⟩⟩
  | x => exact ⟨sh, _, rfl, xy_shp, by decide, fun _ => ⟨fun _ => q, nofun⟩, nofun⟩
  | y => exact ⟨sh, _, rfl, xy_shp, by decide, fun _ => ⟨nofun, fun _ => q⟩, nofun⟩
  | pow a n =>
    have hl' : a.lev ≤ d := by simp only [FT.lev] at hl; omega
    exact ⟨sh, _, rfl, xy_shp, by decide, nofun, fun _ => ⟨rfl, nofun, fun _ => ⟨_, rfl, fun _ => ⟨_, rfl, rfl, a, rfl, hl', by omega, _, rfl, q⟩, nofun⟩⟩⟩
  | mul a b =>
    have hl' : a.lev ≤ d ∧ b.lev ≤ d := by simp only [FT.lev] at hl; omega
    exact ⟨sh, _, rfl, xy_shp, by decide, nofun, fun _ => ⟨rfl, nofun, fun _ => ⟨_, rfl, nofun, fun _ => ⟨_, rfl, _, rfl, rfl, a, rfl, hl'.1, by omega, _, rfl, rfl, b, rfl, hl'.2, by omega, q⟩⟩⟩⟩
  | add a b =>
    have hl' : a.lev ≤ d ∧ b.lev ≤ d := by simp only [FT.lev] at hl; omega
    exact ⟨sh, _, rfl, xy_shp, by decide, nofun, fun _ => ⟨rfl, nofun, fun _ => ⟨_, rfl, nofun, fun _ => ⟨_, rfl, _, rfl, rfl, a, rfl, hl'.1, by omega, _, rfl, rfl, b, rfl, hl'.2, by omega, q⟩⟩⟩⟩
  | sub a b =>
    have hl' : a.lev ≤ d ∧ b.lev ≤ d := by simp only [FT.lev] at hl; omega
    exact ⟨sh, _, rfl, xy_shp, by decide, nofun, fun _ => ⟨rfl, nofun, fun _ => ⟨_, rfl, nofun, fun _ => ⟨_, rfl, _, rfl, rfl, a, rfl, hl'.1, by omega, _, rfl, rfl, b, rfl, hl'.2, by omega, q⟩⟩⟩⟩
end DL
/-! The data layer, part x: a text in a text. -/
namespace DL
open PySem L2 PyProof.Rows
section
variable {X : Cx} {K : PySem.W.Frag} {F H : Hp}
def cInS (neg : Bool) : F2
  | .str a, .str b, k => k (.bool (if neg then !(!(Builtin.Str.occurrences b a 0 b.length 1).isEmpty) else !(Builtin.Str.occurrences b a 0 b.length 1).isEmpty))
  | _, _, _ => False
theorem ok_inS : Op2Ok K (cInS false) (fun x y H Q => ∃ a b, x = .str a ∧ y = .str b ∧ Q (.bl (!(Builtin.Str.occurrences b a 0 b.length 1).isEmpty)) H) := by
  intro F H vx vy x y k Q s dx dy h c
  unfold cInS at h
  split at h
  · rw [dx.str, dy.str]
    exact ⟨_, _, rfl, rfl, c _ _ F H h (Grow.refl s) (.bl _)⟩
  · exact False.elim h
theorem ok_notInS : Op2Ok K (cInS true) (fun x y H Q => ∃ a b, x = .str a ∧ y = .str b ∧ Q (.bl (!(!(Builtin.Str.occurrences b a 0 b.length 1).isEmpty))) H) := by
  intro F H vx vy x y k Q s dx dy h c
  unfold cInS at h
  split at h
  · rw [dx.str, dy.str]
    exact ⟨_, _, rfl, rfl, c _ _ F H h (Grow.refl s) (.bl _)⟩
  · exact False.elim h
end
/-! ### the signs of a text -/
def cl (s : Str) : List Nat := s.cps.toList
theorem cl_app (s t : Str) : cl (s ++ t) = cl s ++ cl t := by
  show (s.cps ++ t.cps).toList = _
  simp [cl]
theorem cl_len (s : Str) : (cl s).length = s.length := by
  show s.cps.toList.length = s.cps.size
  simp
theorem sub_iff (x y : Str) (i : Nat) : Builtin.Str.subAt x y i = true ↔ ((cl x).drop i).take y.length = cl y := by
  unfold Builtin.Str.subAt cl
  rw [beq_iff_eq, ← Array.toList_inj, Array.toList_extract, List.extract_eq_take_drop]
  rw [show i + y.length - i = y.length by omega]
theorem occ_iff (x y : Str) : (!(Builtin.Str.occurrences x y 0 x.length 1).isEmpty) = true ↔ ∃ A B, cl x = A ++ (cl y ++ B) := by
  rw [StrLaws.found_iff]
  refine ⟨fun ⟨i, h1, h2⟩ => ?_, fun ⟨A, B, h⟩ => ?_⟩
  · rw [sub_iff] at h2
    refine ⟨(cl x).take i, ((cl x).drop i).drop y.length, ?_⟩
    rw [← h2, List.take_append_drop, List.take_append_drop]
  · have hl := congrArg List.length h
    rw [cl_len, List.length_append, List.length_append, cl_len] at hl
    refine ⟨A.length, by omega, ?_⟩
    rw [sub_iff, h, List.drop_left, ← cl_len y, List.take_left]
end DL
namespace DL
open PySem L2 PyProof.Rows
/-! what is a leaf, what stands in a formula -/
def FT.kids : FT → List FT
  | add a b | sub a b | mul a b => [a, b]
  | pow a _ => [a]
  | _ => []
def FT.isI : FT → Bool
  | int _ => true
  | _ => false
def FT.isL : FT → Bool
  | int i => decide ((if i < 0 then -i else i) < 10000000000000000000000000000000000000000)
  | x => true
  | y => true
  | _ => false
def FT.good1 : FT → Bool
  | int i => decide ((if i < 0 then -i else i) < 10000000000000000000000000000000000000000)
  | pow _ n => decide (((n : Nat) : Int) ≤ 16)
  | _ => true
def innerF (f : FT) : PD := if f.good1 = true then .tuple (f.kids.map FT.pd) else .none
def S_isint : FSpec := ⟨fun args Q => ∃ f : FT, args = [.d f.pd] ∧ Q (.d (.bool f.isI)) []⟩
abbrev N_is_integer : List Str := ["value"]
def ir_is_integer : TSt :=
  (sRet (fD (dAnd (dIsi "int" (.s 0)) (dNot (dIsi "bool" (.s 0))))))
theorem sp_isint : ∀ args Q, S_isint.sp args Q → ir_is_integer (endsOf args Q) (rho0 N_is_integer args) := by
  rintro args Q ⟨f, rfl, q⟩
  cases f with
  | int i => exact ⟨rfl, fun _ => ⟨rfl, q⟩, nofun⟩
  | x => exact ⟨rfl, nofun, fun _ => q⟩
  | y => exact ⟨rfl, nofun, fun _ => q⟩
  | add a b => exact ⟨rfl, nofun, fun _ => q⟩
  | sub a b => exact ⟨rfl, nofun, fun _ => q⟩
  | mul a b => exact ⟨rfl, nofun, fun _ => q⟩
  | pow a n => exact ⟨rfl, nofun, fun _ => q⟩
def S_isleaf : FSpec := ⟨fun args Q => ∃ f : FT, args = [.d f.pd] ∧ Q (.d (.bool f.isL)) []⟩
abbrev N_is_leaf : List Str := ["value"]
def ir_is_leaf (S_is_integer : FSpec) : TSt :=
  (sSeq (sIf (tVal (dFz (fCall S_is_integer (aCons (.e (dVar 0)) aNil)))) (sRet (fD (dBin cLt (.e (dBi bAbs (aCons (.s 0) aNil))) (.e (dC (.int 10000000000000000000000000000000000000000)))))) sNext)
    (sRet (fD (dAnd (dIsi "str" (.s 0)) (dBin (cIn false) (.s 0) (.e (dC (.tuple [.str "x", .str "y"]))))))))
theorem sp_isleaf : ∀ args Q, S_isleaf.sp args Q → ir_is_leaf S_isint (endsOf args Q) (rho0 N_is_leaf args) := by
  rintro args Q ⟨f, rfl, q⟩
  cases f with
  | int i => exact ⟨rfl, .int i, rfl, fun _ => q, nofun⟩
  | x => exact ⟨rfl, .x, rfl, nofun, fun _ => ⟨rfl, fun _ => ⟨rfl, _, rfl, rfl, q⟩, nofun⟩⟩
  | y => exact ⟨rfl, .y, rfl, nofun, fun _ => ⟨rfl, fun _ => ⟨rfl, _, rfl, rfl, q⟩, nofun⟩⟩
  | add a b => exact ⟨rfl, .add a b, rfl, nofun, fun _ => ⟨rfl, nofun, fun _ => q⟩⟩
  | sub a b => exact ⟨rfl, .sub a b, rfl, nofun, fun _ => ⟨rfl, nofun, fun _ => q⟩⟩
  | mul a b => exact ⟨rfl, .mul a b, rfl, nofun, fun _ => ⟨rfl, nofun, fun _ => q⟩⟩
  | pow a n => exact ⟨rfl, .pow a n, rfl, nofun, fun _ => ⟨rfl, nofun, fun _ => q⟩⟩
def S_inner : FSpec := ⟨fun args Q => ∃ f : FT, args = [.d f.pd] ∧ Q (.d (innerF f)) []⟩
abbrev N_inner : List Str := ["value"]
def ir_inner (S_is_leaf : FSpec) (S_is_integer : FSpec) : TSt :=
  (sSeq (sIf (tVal (dFz (fCall S_is_leaf (aCons (.e (dVar 0)) aNil)))) (sRet (fD (dTup aNil))) sNext)
    (sSeq (sIf (tOrD (tNotD (tVal (dIsi "tuple" (.s 0)))) (tOrD (tVal (dBin cNe (.e (dBi bLen (aCons (.s 0) aNil))) (.e (dC (.int 3))))) (tNotD (tVal (dIsi "str" (.e (dBin bIx (.s 0) (.e (dC (.int 0)))))))))) (sRet (fD (dC (.none)))) sNext)
    (sSeq (sIf (tVal (dBin (cIn false) (.e (dBin bIx (.s 0) (.e (dC (.int 0))))) (.e (dC (.tuple [.str "add", .str "sub", .str "mul"]))))) (sRet (fD (dSl (.s 0) (pSome (.e (dC (.int 1)))) pNone))) sNext)
    (sSeq (sIf (tAndD (tVal (dBin cEq (.e (dBin bIx (.s 0) (.e (dC (.int 0))))) (.e (dC (.str "pow"))))) (tAndD (tVal (dFz (fCall S_is_integer (aCons (.e (dBin bIx (.s 0) (.e (dC (.int 2))))) aNil)))) (tVal (dChain (fun i j => decide (i ≤ j)) (fun i j => decide (i ≤ j)) (.e (dC (.int 0))) (.e (dBin bIx (.s 0) (.e (dC (.int 2))))) (.e (dC (.int 16))))))) (sRet (fD (dSl (.s 0) (pSome (.e (dC (.int 1)))) (pSome (.e (dC (.int 2))))))) sNext)
    (sRet (fD (dC (.none))))))))
theorem sp_inner : ∀ args Q, S_inner.sp args Q → ir_inner S_isleaf S_isint (endsOf args Q) (rho0 N_inner args) := by
  rintro args Q ⟨f, rfl, q⟩
  cases f with
  | int i =>
    refine ⟨rfl, .int i, rfl, fun h => ?_, fun h => ⟨rfl, fun _ => ⟨fun _ => ?_, nofun⟩, nofun⟩⟩
    · have h : (FT.int i).good1 = true := h
      unfold innerF at q
      rw [if_pos h] at q
      exact q
    · have h : (FT.int i).good1 = false := h
      unfold innerF at q
      rw [if_neg (by rw [h]; exact Bool.false_ne_true)] at q
      exact q
  | x => exact ⟨rfl, .x, rfl, fun _ => q, nofun⟩
  | y => exact ⟨rfl, .y, rfl, fun _ => q, nofun⟩
  | add a b => exact ⟨rfl, .add a b, rfl, nofun, fun _ => ⟨rfl, nofun, fun _ => ⟨nofun, fun _ => ⟨_, rfl, rfl, nofun, fun _ => ⟨_, rfl, rfl, _, rfl, rfl, fun _ => q, nofun⟩⟩⟩⟩⟩
  | sub a b => exact ⟨rfl, .sub a b, rfl, nofun, fun _ => ⟨rfl, nofun, fun _ => ⟨nofun, fun _ => ⟨_, rfl, rfl, nofun, fun _ => ⟨_, rfl, rfl, _, rfl, rfl, fun _ => q, nofun⟩⟩⟩⟩⟩
  | mul a b => exact ⟨rfl, .mul a b, rfl, nofun, fun _ => ⟨rfl, nofun, fun _ => ⟨nofun, fun _ => ⟨_, rfl, rfl, nofun, fun _ => ⟨_, rfl, rfl, _, rfl, rfl, fun _ => q, nofun⟩⟩⟩⟩⟩
  | pow a n =>
    have n0 : (0 : Int) ≤ ((n : Nat) : Int) := by omega
    refine ⟨rfl, .pow a n, rfl, nofun, fun _ => ⟨rfl, nofun, fun _ => ⟨nofun, fun _ => ⟨_, rfl, rfl, nofun, fun _ => ⟨_, rfl, rfl, _, rfl, rfl, nofun, fun _ => ⟨_, rfl, fun _ => ⟨_, rfl, rfl, .int ((n : Nat) : Int), rfl, fun _ => ⟨_, rfl, fun _ => ⟨fun h => ?_, fun h => ?_⟩, fun h => ?_⟩, nofun⟩, nofun⟩⟩⟩⟩⟩⟩
    · have h : (FT.pow a n).good1 = true := h
      unfold innerF at q
      rw [if_pos h] at q
      exact q
    · have h : (FT.pow a n).good1 = false := h
      unfold innerF at q
      rw [if_neg (by rw [h]; exact Bool.false_ne_true)] at q
      exact q
    · exact absurd n0 (of_decide_eq_false h)
/-- all of it is in its bounds -/
def FT.wf : FT → Prop
  | int i => i.natAbs < 10 ^ 40
  | add a b | sub a b | mul a b => a.wf ∧ b.wf
  | pow a n => a.wf ∧ n ≤ 16
  | _ => True
theorem FT.wf.good {f : FT} (h : f.wf) : f.good1 = true := by
  cases f with
  | int i =>
    have h : i.natAbs < 10 ^ 40 := h
    show decide ((if i < 0 then -i else i) < 10000000000000000000000000000000000000000) = true
    rw [decide_eq_true_iff]
    split <;> omega
  | pow a n => exact decide_eq_true (by have h : n ≤ 16 := h.2; omega)
  | _ => rfl
theorem FT.wf.kid {f : FT} (h : f.wf) : ∀ k ∈ f.kids, k.wf ∧ k.lev + 1 ≤ f.lev := by
  cases f with
  | int i => exact fun k hk => by cases hk
  | x => exact fun k hk => by cases hk
  | y => exact fun k hk => by cases hk
  | pow a n =>
    intro k hk
    simp only [kids, List.mem_cons, List.not_mem_nil, or_false] at hk
    subst hk
    exact ⟨h.1, Nat.le_refl _⟩
  | add a b | sub a b | mul a b =>
    intro k hk
    simp only [kids, List.mem_cons, List.not_mem_nil, or_false] at hk
    rcases hk with rfl | rfl
    · exact ⟨h.1, by simp only [lev]; omega⟩
    · exact ⟨h.2, by simp only [lev]; omega⟩
theorem FT.wf.of {f : FT} (h : f.in40) (he : f.e ≤ 16) : f.wf := by
  induction f with
  | int i => exact h
  | x => trivial
  | y => trivial
  | add a b ia ib => simp only [e] at he; exact ⟨ia h.1 (by omega), ib h.2 (by omega)⟩
  | sub a b ia ib => simp only [e] at he; exact ⟨ia h.1 (by omega), ib h.2 (by omega)⟩
  | mul a b ia ib => simp only [e] at he; exact ⟨ia h.1 (by omega), ib h.2 (by omega)⟩
  | pow a n ia =>
    simp only [e] at he
    have e1 : a.e ≤ a.e * max 1 n := Nat.le_mul_of_pos_right _ (by omega)
    have e2 : max 1 n ≤ a.e * max 1 n := Nat.le_mul_of_pos_left _ a.e_pos
    exact ⟨ia h (by omega), by omega⟩
def S_lone (d : Nat) : FSpec := ⟨fun args Q => ∃ f : FT, args = [.d f.pd] ∧ f.lev ≤ d ∧ d ≤ 60 ∧ f.wf ∧ Q (.d (.bool (!f.hasY))) []⟩
theorem S_lone0 : ∀ args Q, ¬ (S_lone 0).sp args Q := by
  rintro args Q ⟨f, _, h, _⟩
  have := f.lev_pos
  omega
theorem lone_body (d : Nat) {f : FT} (hd : d ≤ 60) (hl : f.lev ≤ d + 1) (hw : f.wf) {Q : PD → En → Prop} (q : Q (.bool (f.kids.all fun k => !k.hasY)) [some (.d f.pd), none]) :
    (dBi bAll (aCons (.e (dFz (fLc (iSeq (dFz (fCall S_inner (aCons (.e (dVar 0)) aNil)))) [1] (.nm 1) cYes (dFz (fCall (S_lone d) (aCons (.e (dVar 1)) aNil)))))) aNil)) [some (.d f.pd), none] Q := by
  refine ⟨rfl, f, rfl, ?_⟩
  unfold innerF
  rw [if_pos hw.good]
  refine ⟨⟨rfl, rfl⟩, fun i acc ρ => acc = (f.kids.take i).map (fun k => PyData.bool (!k.hasY)) ∧ ρ = [some (.d f.pd), none], ⟨rfl, rfl⟩, fun _ _ _ _ => trivial, ?_, ?_⟩
  · rintro i z acc ρ hz ⟨rfl, rfl⟩
    have hz : (f.kids.map FT.pd)[i]? = some z := hz
    rw [List.getElem?_map] at hz
    obtain ⟨k, hk, rfl⟩ := Option.map_eq_some_iff.mp hz
    obtain ⟨kw, kl⟩ := hw.kid k (List.mem_of_getElem? hk)
    refine ⟨fun _ => ⟨rfl, k, rfl, by omega, hd, kw, ?_, ?_, rfl⟩, nofun⟩
    · have : f.kids.length ≤ 2 := by cases f <;> simp [FT.kids]
      rw [List.length_map, List.length_take, sizeLine_eq]; omega
    · rw [List.take_add_one, hk, Option.toList_some, List.map_append]
      rfl
  · rintro acc ρ ⟨rfl, rfl⟩
    have el : (Wk.items (f.kids.map FT.pd)).list.length = f.kids.length := List.length_map _
    rw [el, List.take_length]
    refine ⟨f.kids.map fun k => !k.hasY, by rw [List.map_map]; rfl, ?_⟩
    have e : (f.kids.map fun k => !k.hasY).all id = f.kids.all fun k => !k.hasY := by rw [List.all_map]; rfl
    first
      | (rw [← e] at q; exact q)
      | exact q
abbrev N_is_lone : List Str := ["formula", "one"]
def ir_is_lone (S_inner : FSpec) (S_is_lone : FSpec) : TSt :=
  (sRet (fD (dAnd (dBin cNe (.s 0) (.e (dC (.str "y")))) (dBi bAll (aCons (.e (dFz (fLc (iSeq (dFz (fCall S_inner (aCons (.e (dVar 0)) aNil)))) [1] (.nm 1) cYes (dFz (fCall S_is_lone (aCons (.e (dVar 1)) aNil)))))) aNil)))))
theorem sp_lone (d : Nat) : ∀ args Q, (S_lone (d + 1)).sp args Q → ir_is_lone S_inner (S_lone d) (endsOf args Q) (rho0 N_is_lone args) := by
  rintro args Q ⟨f, rfl, hl, hd, hw, q⟩
  have sh : shp f.pd := (f.shpN.mono (by omega : f.lev ≤ 61)).shp
  have sy : shp (.str "y") := (FT.y.shpN).shp
  have d60 : d ≤ 60 := by omega
  cases f with
  | int i => exact ⟨sh, sy, fun _ => lone_body d d60 hl hw q, nofun⟩
  | x => exact ⟨fun _ => lone_body d d60 hl hw q, nofun⟩
  | y => exact ⟨nofun, fun _ => q⟩
  | add a b =>
    have e : (!(FT.add a b).hasY) = (FT.add a b).kids.all fun k => !k.hasY := by simp [FT.hasY, FT.kids]
    rw [e] at q
    exact ⟨sh, sy, fun _ => lone_body d d60 hl hw q, nofun⟩
  | sub a b =>
    have e : (!(FT.sub a b).hasY) = (FT.sub a b).kids.all fun k => !k.hasY := by simp [FT.hasY, FT.kids]
    rw [e] at q
    exact ⟨sh, sy, fun _ => lone_body d d60 hl hw q, nofun⟩
  | mul a b =>
    have e : (!(FT.mul a b).hasY) = (FT.mul a b).kids.all fun k => !k.hasY := by simp [FT.hasY, FT.kids]
    rw [e] at q
    exact ⟨sh, sy, fun _ => lone_body d d60 hl hw q, nofun⟩
  | pow a n =>
    have e : (!(FT.pow a n).hasY) = (FT.pow a n).kids.all fun k => !k.hasY := by simp [FT.hasY, FT.kids]
    rw [e] at q
    exact ⟨sh, sy, fun _ => lone_body d d60 hl hw q, nofun⟩
/-! ### where y stands in a repr -/
theorem cl_tup3 (w p q : PD) : cl (PyData.shown (.tuple [w, p, q])) = 40 :: (cl (PyData.shown w) ++ 44 :: 32 :: (cl (PyData.shown p) ++ 44 :: 32 :: (cl (PyData.shown q) ++ [41]))) := by
  rw [PyData.shown, shownAll_map]
  have j : Str.join ", " ([w, p, q].map PyData.shown) = PyData.shown w ++ ", " ++ (PyData.shown p ++ ", " ++ PyData.shown q) := rfl
  have c1 : cl ("(" : Str) = [40] := by decide +kernel
  have c2 : cl (")" : Str) = [41] := by decide +kernel
  have c3 : cl (", " : Str) = [44, 32] := by decide +kernel
  unfold tupleText
  rw [j]
  have e : (if ([w, p, q].map PyData.shown).length == 1 then ",)" else ")" : String) = ")" := rfl
  rw [e]
  simp only [cl_app, c1, c2, c3]
  simp
theorem dig_nat (m : Nat) : 121 ∉ (Nat.toDigits 10 m).map Char.toNat := fun h => by
  obtain ⟨c, hc, e⟩ := List.mem_map.mp h
  have d := Nat.isDigit_of_mem_toDigits (by decide) (by decide) hc
  unfold Char.isDigit at d
  rw [Bool.and_eq_true, decide_eq_true_iff, decide_eq_true_iff] at d
  have d2 := UInt32.le_iff_toNat_le.mp d.2
  have e : c.val.toNat = 121 := e
  rw [e] at d2
  exact absurd d2 (by decide)
theorem dig_no (i : Int) : 121 ∉ cl (Str.ofString (toString i)) := by
  have nat : ∀ m : Nat, cl (Str.ofString (toString ((m : Nat) : Int))) = (Nat.toDigits 10 m).map Char.toNat := fun m => PySem.W.KIN.signs_num m
  rcases i with m | m
  · have := nat m
    show 121 ∉ cl (Str.ofString (toString ((m : Nat) : Int)))
    rw [this]
    exact dig_nat m
  · have e : toString (Int.negSucc m) = "-" ++ toString (((m + 1 : Nat)) : Int) := rfl
    have e2 : cl (Str.ofString ("-" ++ toString (((m + 1 : Nat)) : Int))) = 45 :: cl (Str.ofString (toString (((m + 1 : Nat)) : Int))) := by
      unfold cl
      rw [PySem.Str.ofString_eq_toList, PySem.Str.ofString_eq_toList, String.toList_append, List.map_append]
      rfl
    rw [e, e2, nat, List.mem_cons]
    rintro (h | h)
    · cases h
    · exact dig_nat _ h
theorem shown_int (i : Int) : PyData.shown (.int i) = Str.ofString (toString i) := by rw [PyData.shown]
theorem no_y : ∀ {f : FT}, f.hasY = false → 121 ∉ cl (PyData.shown f.pd)
  | .int i, _ => by show 121 ∉ cl (PyData.shown (.int i)); rw [shown_int]; exact dig_no i
  | .x, _ => by decide +kernel
  | .y, h => by cases h
  | .add a b, h => by
    simp only [FT.hasY, Bool.or_eq_false_iff] at h
    exact key (by decide +kernel) (no_y h.1) (no_y h.2)
  | .sub a b, h => by
    simp only [FT.hasY, Bool.or_eq_false_iff] at h
    exact key (by decide +kernel) (no_y h.1) (no_y h.2)
  | .mul a b, h => by
    simp only [FT.hasY, Bool.or_eq_false_iff] at h
    exact key (by decide +kernel) (no_y h.1) (no_y h.2)
  | .pow a n, h => key (by decide +kernel) (no_y (f := a) h) (by rw [shown_int]; exact dig_no _)
where
  key {w p q : PD} (h1 : 121 ∉ cl (PyData.shown w)) (h2 : 121 ∉ cl (PyData.shown p)) (h3 : 121 ∉ cl (PyData.shown q)) : 121 ∉ cl (PyData.shown (.tuple [w, p, q])) := by
    rw [cl_tup3]
    simp only [List.mem_cons, List.mem_append, List.not_mem_nil, or_false]
    rintro (h | h | h | h | h | h | h | h | h) <;> first | contradiction | (cases h; done) | omega
theorem has_y : ∀ {f : FT}, f.hasY = true → ∃ A B, cl (PyData.shown f.pd) = A ++ ([39, 121, 39] ++ B)
  | .int _, h => by cases h
  | .x, h => by cases h
  | .y, _ => ⟨[], [], by decide +kernel⟩
  | .add a b, h => by
    simp only [FT.hasY, Bool.or_eq_true] at h
    exact h.elim (fun h => left (has_y h)) fun h => right (has_y h)
  | .sub a b, h => by
    simp only [FT.hasY, Bool.or_eq_true] at h
    exact h.elim (fun h => left (has_y h)) fun h => right (has_y h)
  | .mul a b, h => by
    simp only [FT.hasY, Bool.or_eq_true] at h
    exact h.elim (fun h => left (has_y h)) fun h => right (has_y h)
  | .pow a n, h => left (has_y (f := a) h)
where
  left {w p q : PD} (h : ∃ A B, cl (PyData.shown p) = A ++ ([39, 121, 39] ++ B)) : ∃ A B, cl (PyData.shown (.tuple [w, p, q])) = A ++ ([39, 121, 39] ++ B) := by
    obtain ⟨A, B, e⟩ := h
    refine ⟨40 :: (cl (PyData.shown w) ++ 44 :: 32 :: A), B ++ 44 :: 32 :: (cl (PyData.shown q) ++ [41]), ?_⟩
    rw [cl_tup3, e]
    simp
  right {w p q : PD} (h : ∃ A B, cl (PyData.shown q) = A ++ ([39, 121, 39] ++ B)) : ∃ A B, cl (PyData.shown (.tuple [w, p, q])) = A ++ ([39, 121, 39] ++ B) := by
    obtain ⟨A, B, e⟩ := h
    refine ⟨40 :: (cl (PyData.shown w) ++ 44 :: 32 :: (cl (PyData.shown p) ++ 44 :: 32 :: A)), B ++ [41], ?_⟩
    rw [cl_tup3, e]
    simp
/-- 'y' stands in the repr just if y stands in the formula -/
theorem occ_y (f : FT) : (!(Builtin.Str.occurrences (PyData.shown f.pd) "'y'" 0 (PyData.shown f.pd).length 1).isEmpty) = f.hasY := by
  have cy : cl ("'y'" : Str) = [39, 121, 39] := by decide +kernel
  have h := occ_iff (PyData.shown f.pd) "'y'"
  rw [cy] at h
  cases e : f.hasY with
  | true => exact h.mpr (has_y e)
  | false =>
    rw [Bool.eq_false_iff]
    intro z
    obtain ⟨A, B, q⟩ := h.mp z
    have := no_y e
    rw [q] at this
    exact this (by simp)
end DL
/-! The data layer, part y: a tuple's items put behind a list's. -/
namespace DL
open PySem L2 PyProof.Rows
open PySem.AutoSeq1 in
theorem ext_tup (l : Addr) (xs : Array Value) (n : Nat) (b : Addr) (ys : Array Value) (m : Nat) (dd : Option Addr) (sl : Array (Option Value)) (h0 : ¬(!xs.isEmpty && Builtin.List.listTooLong (xs.size + ys.size)) = true) (h1 : xs.size ≤ sizeLine) (h2 : xs.size + ys.size ≤ sizeLine + 1) :
    Meets (Builtin.«list.extend» ⟨[.ref l, .ref b], []⟩) (fun _ R s => s.heap.get? l = some ⟨.type "list", none, .seq xs n, #[]⟩ ∧ s.heap.get? b = some ⟨.type "tuple", dd, .seq ys m, sl⟩ ∧
      R (.ok (.ret Value.none)) { s with heap := s.heap.update l (Obj.mapSeq fun x => x ++ ys), toks := s.toks }) :=
  .of_wp fun prog w A R s z => by
    obtain ⟨hp, gg, dr, tk, os⟩ := s
    obtain ⟨zl, zb, zq⟩ := z
    have w1 := AutoSeq1.idx_int
    have w2 := AutoSeq1.sub_tuple_tuple
    have w3 := AutoSeq1.sub_list_list
    have w4 := AutoSeq1.sub_tuple_list
    have w5 := AutoSeq1.sub_list_tuple
    have w6 : (xs ++ ys).size ≤ sizeLine + 1 := by rw [Array.size_append]; exact h2
    wp_walk using (wpAny_updateSeq zl rfl (hz := h1) (_hz' := w6)), wpAny_loadPart' zl, wpAny_loadPart' zb
    exact ⟨_, rfl, zq⟩
section
variable {X : Cx} {K : PySem.W.Frag} {F H : Hp} {e : Expr} {pos : Pos} {oa : Op1}
def rExtT (K : PySem.W.Frag) : V → List V → Hp → VK → Prop := fun x vs H Q => ∃ l b xs zs, x = .ref l ∧ vs = [.ref b] ∧ H l = some (.lst xs) ∧ SqT K H b zs ∧ xs.length + zs.length ≤ sizeLine ∧ Q .non (upd H l (.lst (xs ++ zs)))
theorem mt_extT : MtR X "list.extend" (rExtT X.K) := by
  rintro pins s σ H x vs v us Q I rx rv ⟨l, b, xs, zs, rfl, rfl, hH, hB, hz, q⟩
  cases rx
  obtain ⟨u1, rfl, ru⟩ := rv.one
  cases ru
  obtain ⟨z, is1, n, r, hl, e⟩ := I.lstM hH
  obtain ⟨is2, r2, ⟨⟨c2, dd, dt, sl⟩, e2, hc, m, hd⟩, _⟩ := I.tuple hB
  simp only at hc hd
  subst hc hd
  have hl2 := r2.length
  have hsz : is1.toArray.size + is2.toArray.size ≤ sizeLine := by simp only [List.size_toArray]; omega
  have hlong : ¬ (!is1.toArray.isEmpty && Builtin.List.listTooLong (is1.toArray.size + is2.toArray.size)) = true := by
    rw [notLongL hsz, Bool.and_false]; exact Bool.false_ne_true
  refine call_meets F.slot_list_extend ⟨_, e, rfl⟩ F.entry_list_extend (F.args_list_extend_2 _ _) (ext_tup l is1.toArray n b is2.toArray m dd sl hlong (by simp only [List.size_toArray]; omega) (by omega))
    ⟨e, e2, .non, _, I.lset (its' := is1 ++ is2) hH e (by simp) (r.append r2) ?_, rfl, q⟩
  rw [List.length_append]; exact hz
def sExtT (s : Nat) (o : Op1) : TSt := fun D ρ => match ρ[s]? with
  | some (some (.ls _ _)) => o.run ρ fun a ρ1 => res1 ρ1 a fun y => (match y, ρ1[s]? with
    | .tuple ys, some (some (.ls p xs)) => xs.length + ys.length ≤ sizeLine ∧ D.nx (ρ1.set s (some (.ls p (xs ++ ys))))
    | _, _ => False)
  | _ => False
theorem LS.extT {s : Nat} (h : PE X e (tBM X.K "list" (rExtT X.K) (tVar s) (tCons (liftO X.K oa) tNil))) (hs : swapsWith e none pos.line X.env = pure false := by rfl) : LS X (.Expr e pos) (sExtT s oa) := ⟨psImp (ps_expr h hs) fun D σ H ⟨G, ρ, F, D', R, q, k⟩ => by
  unfold sExtT at q
  split at q
  · rename_i p0 ys er
    obtain ⟨a, us, es, ea, _⟩ := R.own_ls er
    refine ⟨_, es, .inl ⟨rfl, us, SqL.of ea⟩, G, ρ, F, _, R, q, fun av ρ1 v H1 F1 h1 R1 s1 d => ?_⟩
    obtain ⟨y, h2, dy⟩ := res1_dr R1 d h1
    split at h2
    · rename_i zs p xs er1
      obtain ⟨b, vs, es1, eb, dv⟩ := R1.own_ls er1
      rw [es] at es1
      have eab : a = b := by simpa using es1
      subst eab
      obtain ⟨c, ws, rfl, ec, dw⟩ := dy.tup R1.fh
      refine ⟨a, c, vs, ws, rfl, rfl, eb, ec, by rw [dv.length, dw.length]; exact h2.1, k.nx _ _ _ _ h2.2 ?_ s1⟩
      exact R1.write er1 rfl es (m := .ls p (xs ++ zs)) (dv.append dw) rfl
    · exact False.elim h2
  · exact False.elim q⟩
end
end DL
namespace DL
open PySem L2 PyProof.Rows
/-! what a formula is -/
def stepF : List FT → Nat → List FT → Option (List FT × Nat)
  | [], p, later => some (later, p)
  | f :: r, p, later => if f.good1 = true ∧ p + 1 ≤ 200 then stepF r (p + 1) (later ++ f.kids) else none
def hf : Nat → List FT → Nat → Bool
  | 0, layer, _ => layer.isEmpty
  | n + 1, layer, p => match stepF layer p [] with
    | none => false
    | some (later, q) => hf n later q
def FT.size : FT → Nat
  | add a b | sub a b | mul a b => a.size + b.size + 1
  | pow a _ => a.size + 1
  | _ => 1
def szL : List FT → Nat
  | [] => 0
  | f :: r => f.size + szL r
theorem szL_app : ∀ xs ys : List FT, szL (xs ++ ys) = szL xs + szL ys
  | [], ys => by rw [List.nil_append, szL, Nat.zero_add]
  | x :: r, ys => by rw [List.cons_append, szL, szL, szL_app r ys, Nat.add_assoc]
theorem FT.size_kids (f : FT) : f.size = szL f.kids + 1 := by
  cases f <;> simp only [size, kids, szL] <;> omega
theorem FT.lev_kids (f : FT) (n : Nat) : f.lev ≤ n + 1 ↔ ∀ k ∈ f.kids, k.lev ≤ n := by
  cases f <;> simp only [lev, kids, List.mem_cons, List.not_mem_nil, or_false, forall_eq_or_imp, forall_eq, false_implies, implies_true, iff_true] <;> omega
/-- all of it is as a formula's parts are, as a test -/
def FT.wfb : FT → Bool
  | int i => decide ((if i < 0 then -i else i) < 10000000000000000000000000000000000000000)
  | add a b | sub a b | mul a b => a.wfb && b.wfb
  | pow a n => decide (((n : Nat) : Int) ≤ 16) && a.wfb
  | _ => true
theorem FT.wfb_kids (f : FT) : f.wfb = true ↔ f.good1 = true ∧ ∀ k ∈ f.kids, k.wfb = true := by
  cases f <;> simp only [wfb, good1, kids, List.mem_cons, List.not_mem_nil, or_false, forall_eq_or_imp, forall_eq, false_implies, implies_true, and_true, true_and, Bool.and_eq_true]
theorem FT.wfb_wf : ∀ {f : FT}, f.wfb = true → f.wf
  | int i, h => by
    have h : (if i < 0 then -i else i) < 10000000000000000000000000000000000000000 := of_decide_eq_true h
    show i.natAbs < 10 ^ 40
    split at h <;> omega
  | x, _ => trivial
  | y, _ => trivial
  | add a b, h => by simp only [wfb, Bool.and_eq_true] at h; exact ⟨wfb_wf h.1, wfb_wf h.2⟩
  | sub a b, h => by simp only [wfb, Bool.and_eq_true] at h; exact ⟨wfb_wf h.1, wfb_wf h.2⟩
  | mul a b, h => by simp only [wfb, Bool.and_eq_true] at h; exact ⟨wfb_wf h.1, wfb_wf h.2⟩
  | pow a n, h => by
    simp only [wfb, Bool.and_eq_true, decide_eq_true_iff] at h
    exact ⟨wfb_wf h.2, by omega⟩
theorem stepF_some : ∀ {layer : List FT} {p : Nat} {later : List FT}, (∀ f ∈ layer, f.good1 = true) → p + layer.length ≤ 200 → stepF layer p later = some (later ++ layer.flatMap FT.kids, p + layer.length)
  | [], p, later, _, _ => by simp [stepF]
  | f :: r, p, later, h, hp => by
    rw [List.length_cons] at hp
    rw [stepF, if_pos ⟨h f List.mem_cons_self, by omega⟩, stepF_some (fun g hg => h g (List.mem_cons_of_mem _ hg)) (by omega)]
    rw [List.flatMap_cons, List.append_assoc, List.length_cons, show p + 1 + r.length = p + (r.length + 1) by omega]
theorem stepF_good : ∀ {layer : List FT} {p : Nat} {later : List FT} {x : List FT × Nat}, p ≤ 200 → stepF layer p later = some x → (∀ f ∈ layer, f.good1 = true) ∧ p + layer.length ≤ 200
  | [], p, later, x, hp, _ => ⟨fun f hf => (by cases hf), by simpa using hp⟩
  | f :: r, p, later, x, hp, h => by
    rw [stepF] at h
    split at h
    · rename_i c
      obtain ⟨h1, h2⟩ := stepF_good c.2 h
      refine ⟨fun g hg => ?_, by rw [List.length_cons]; omega⟩
      rcases List.mem_cons.mp hg with rfl | hg
      · exact c.1
      · exact h1 g hg
    · cases h
theorem szL_kids : ∀ layer : List FT, szL layer = layer.length + szL (layer.flatMap FT.kids)
  | [] => rfl
  | f :: r => by
    rw [szL, List.flatMap_cons, szL_app, List.length_cons, szL_kids r, f.size_kids]
    omega
theorem hf_iff : ∀ (n : Nat) (layer : List FT) (p : Nat), p ≤ 200 → (hf n layer p = true ↔ (∀ f ∈ layer, f.lev ≤ n ∧ f.wfb = true) ∧ p + szL layer ≤ 200)
  | 0, layer, p, hp => by
    cases layer with
    | nil => exact ⟨fun _ => ⟨fun f hf => (by cases hf), by simpa [szL] using hp⟩, fun _ => rfl⟩
    | cons f r =>
      refine ⟨nofun, fun h => ?_⟩
      have a := (h.1 f List.mem_cons_self).1
      have b := f.lev_pos
      omega
  | n + 1, layer, p, hp => by
    rw [hf]
    refine ⟨fun h => ?_, fun ⟨h1, h2⟩ => ?_⟩
    · cases e : stepF layer p [] with
      | none => rw [e] at h; cases h
      | some x =>
        obtain ⟨g1, g2⟩ := stepF_good hp e
        rw [stepF_some g1 g2, List.nil_append] at e
        rw [stepF_some g1 g2, List.nil_append] at h
        obtain ⟨k1, k2⟩ := (hf_iff n _ _ g2).mp h
        refine ⟨fun f hf => ⟨(f.lev_kids n).mpr fun k hk => (k1 k (List.mem_flatMap.mpr ⟨f, hf, hk⟩)).1, (f.wfb_kids).mpr ⟨g1 f hf, fun k hk => (k1 k (List.mem_flatMap.mpr ⟨f, hf, hk⟩)).2⟩⟩, ?_⟩
        rw [szL_kids]
        omega
    · have g1 : ∀ f ∈ layer, f.good1 = true := fun f hf => ((f.wfb_kids).mp (h1 f hf).2).1
      rw [szL_kids] at h2
      rw [stepF_some g1 (by omega), List.nil_append]
      refine (hf_iff n _ _ (by omega)).mpr ⟨fun k hk => ?_, by omega⟩
      obtain ⟨f, hf, hk⟩ := List.mem_flatMap.mp hk
      exact ⟨(f.lev_kids n).mp (h1 f hf).1 k hk, ((f.wfb_kids).mp (h1 f hf).2).2 k hk⟩
def S_hasform : FSpec := ⟨fun args Q => ∃ f : FT, args = [.d f.pd] ∧ f.lev ≤ 50 ∧ Q (.d (.bool (hf 16 [f] 0))) []⟩
abbrev N_has_form : List Str := ["value", "layer", "parts", "level", "later", "one", "lot"]
def ir_has_form (S_inner : FSpec) : TSt :=
  (sSeq (sPar 1 2 (fLst (aCons (.e (dVar 0)) aNil)) (fD (dC (.int 0))))
    (sSeq (sFor (iRg (aCons (.e (dC (.int 16))) aNil)) (.nm 3) (sSeq (sAsg 4 (fLst aNil))
    (sSeq (sFor (iSeq (dVar 1)) (.nm 5) (sSeq (sAsg 6 (fCall S_inner (aCons (.e (dVar 5)) aNil)))
    (sSeq (sAsg 2 (fD (dBin bAdd (.s 2) (.e (dC (.int 1))))))
    (sSeq (sIf (tOrD (tVal (dBin cIsN (.s 6) (.e (dC (.none))))) (tVal (dBin cGt (.s 2) (.e (dC (.int 200)))))) (sRet (fD (dC (.bool false)))) sNext)
    (sExtT 4 (.s 6))))))
    (sAsg 1 (fD (dVar 4))))))
    (sRet (fD (dBin cEq (.s 1) (.e (dFz (fLst aNil))))))))
theorem sp_hasform : ∀ args Q, S_hasform.sp args Q → ir_has_form S_inner (endsOf args Q) (rho0 N_has_form args) := by
  rintro args Q ⟨f, rfl, hlev, q⟩
  have shL : ∀ layer : List FT, (∀ g ∈ layer, g.lev ≤ 50) → shp (.list (layer.map FT.pd)) := fun layer h => (Shp.list (n := 50) fun z hz => by
    obtain ⟨g, hg, rfl⟩ := List.mem_map.mp hz
    exact g.shpN.mono (h g hg)).shp
  refine ⟨by decide, _, rfl, fun i ρ => ∃ (layer : List FT) (p : Nat) (l : Lc) (s3 s4 s5 s6 : Option Lc), ρ = [some (.d f.pd), some l, some (.d (.int (p : Nat))), s3, s4, s5, s6] ∧ (l = .d (.list (layer.map FT.pd)) ∨ l = .ls none (layer.map FT.pd)) ∧ (∀ g ∈ layer, g.lev ≤ 50) ∧ p ≤ 200 ∧ hf (16 - i) layer p = hf 16 [f] 0, ⟨[f], 0, _, none, none, none, none, rfl, .inr rfl, fun g hg => (by rw [List.mem_singleton.mp hg]; exact hlev), by decide, rfl⟩, ?_, ?_⟩
  · rintro i x ρ hx ⟨layer, p, l, s3, s4, s5, s6, rfl, hll, hlv, hp, hh⟩
    obtain ⟨rfl, hi⟩ := rngD_get hx
    have hi : i < 16 := hi
    obtain ⟨n, hn⟩ : ∃ n, 16 - i = n + 1 := ⟨15 - i, by omega⟩
    have n1 : 16 - (i + 1) = n := by omega
    rw [hn] at hh
    rcases hll with rfl | rfl
    all_goals
      refine ⟨_, rfl, fun j ρ => ∃ (later : List FT) (s5 s6 : Option Lc), ρ = [some (.d f.pd), some (.d (.list (layer.map FT.pd))), some (.d (.int ((p + j : Nat) : Int))), some (.d (.int (0 + (i : Nat)))), some (.ls none (later.map FT.pd)), s5, s6] ∧ later.length ≤ 2 * j ∧ (∀ g ∈ later, g.lev ≤ 50) ∧ (p + j ≤ 200 ∧ stepF (layer.drop j) (p + j) later = stepF layer p []), ⟨[], s5, s6, rfl, by decide, fun g hg => (by cases hg), by omega, by rw [List.drop_zero]; rfl⟩, ?_, ?_⟩
      · rintro j z ρ hz ⟨later, s5, s6, rfl, hlen, hlv2, hpj, hst⟩
        have hz : (layer.map FT.pd)[j]? = some z := hz
        rw [List.getElem?_map] at hz
        obtain ⟨g, hg, rfl⟩ := Option.map_eq_some_iff.mp hz
        have gm := List.mem_of_getElem? hg
        have dr : layer.drop j = g :: layer.drop (j + 1) := by
          obtain ⟨hj, e⟩ := List.getElem?_eq_some_iff.mp hg
          rw [List.drop_eq_getElem_cons hj, e]
        rw [dr, stepF] at hst
        have no : ¬ (g.good1 = true ∧ p + j + 1 ≤ 200) → hf 16 [f] 0 = false := fun c => by
          rw [if_neg c] at hst
          rw [← hh, hf, ← hst]
        have ej : ((p + j : Nat) : Int) + 1 = ((p + (j + 1) : Nat) : Int) := by omega
        refine ⟨rfl, g, rfl, ⟨rfl, fun h => ⟨fun _ => ?_, nofun⟩, fun h => ⟨fun h2 => ?_, fun h2 => ?_⟩⟩⟩
        · have h : isNone (innerF g) = true := h
          have c : hf 16 [f] 0 = false := no fun c => by unfold innerF at h; rw [if_pos c.1] at h; cases h
          rw [c] at q
          exact q
        · have h2 : (200 : Int) < ((p + j : Nat) : Int) + 1 := of_decide_eq_true h2
          have c : hf 16 [f] 0 = false := no fun c => by omega
          rw [c] at q
          exact q
        · have h : isNone (innerF g) = false := h
          have h2 : ¬ (200 : Int) < ((p + j : Nat) : Int) + 1 := of_decide_eq_false h2
          have gg : g.good1 = true := by
            unfold innerF at h
            split at h
            · assumption
            · cases h
          have ei : innerF g = .tuple (g.kids.map FT.pd) := by unfold innerF; rw [if_pos gg]
          rw [if_pos ⟨gg, by omega⟩] at hst
          have kl : g.kids.length ≤ 2 := by cases g <;> simp [FT.kids]
          rw [ei]
          refine ⟨?_, later ++ g.kids, some (.d g.pd), some (.d (.tuple (g.kids.map FT.pd))), ?_, by rw [List.length_append]; omega, fun k hk => ?_, by omega, hst⟩
          · show (later.map FT.pd).length + (g.kids.map FT.pd).length ≤ sizeLine
            rw [List.length_map, List.length_map, sizeLine_eq]; omega
          · rw [List.map_append, ← ej]
            rfl
          · rcases List.mem_append.mp hk with hk | hk
            · exact hlv2 k hk
            · have a1 := hlv g gm
              obtain ⟨m, hm⟩ : ∃ m, g.lev = m + 1 := ⟨g.lev - 1, by have := g.lev_pos; omega⟩
              have := (g.lev_kids m).mp (by omega) k hk
              omega
      · rintro ρ ⟨later, s5, s6, rfl, hlen, hlv2, hpj, hst⟩
        have el : (layer.map FT.pd).length = layer.length := List.length_map _
        rw [el] at hpj hst hlen
        rw [List.drop_length, stepF] at hst
        rw [el]
        refine ⟨later, p + layer.length, _, _, _, _, _, rfl, .inl rfl, hlv2, hpj, ?_⟩
        rw [n1, ← hh, hf, ← hst]
  · rintro ρ ⟨layer, p, l, s3, s4, s5, s6, rfl, hll, hlv, hp, hh⟩
    have el : (rngD 0 ((16 : Int)).toNat).length = 16 := rngD_len
    rw [el, Nat.sub_self, hf] at hh
    rw [← hh] at q
    have e : PyData.eqv (.list (layer.map FT.pd)) (.list []) = layer.isEmpty := by rw [eqv_nil, List.isEmpty_map]
    rw [← e] at q
    rcases hll with rfl | rfl
    · exact ⟨shL layer hlv, ⟨rfl, rfl⟩, q⟩
    · exact ⟨shL layer hlv, ⟨rfl, rfl⟩, q⟩
/-! reaches -/
def rch : FT → Nat
  | .pow a n => max 1 (n * rch a)
  | .mul a b => rch a + rch b
  | .add a b | .sub a b => max (rch a) (rch b)
  | _ => 1
theorem rch_le : ∀ f : FT, rch f ≤ f.e ∧ 1 ≤ rch f
  | .int _ => ⟨Nat.le_refl _, Nat.le_refl _⟩
  | .x => ⟨Nat.le_refl _, Nat.le_refl _⟩
  | .y => ⟨Nat.le_refl _, Nat.le_refl _⟩
  | .add a b => by have := rch_le a; have := rch_le b; simp only [rch, FT.e]; omega
  | .sub a b => by have := rch_le a; have := rch_le b; simp only [rch, FT.e]; omega
  | .mul a b => by have := rch_le a; have := rch_le b; simp only [rch, FT.e]; omega
  | .pow a n => by
    have h := rch_le a
    have ep := a.e_pos
    simp only [rch, FT.e]
    have h1 : n * rch a ≤ a.e * max 1 n := by rw [Nat.mul_comm]; exact Nat.mul_le_mul h.1 (by omega)
    have h2 : 1 ≤ a.e * max 1 n := Nat.mul_pos ep (by omega)
    omega
def S_reach (d : Nat) : FSpec := ⟨fun args Q => ∃ f : FT, args = [.d f.pd] ∧ f.lev ≤ d ∧ f.e < 2 ^ 20 ∧ Q (.d (.int ((rch f : Nat) : Int))) []⟩
theorem S_reach0 : ∀ args Q, ¬ (S_reach 0).sp args Q := by
  rintro args Q ⟨f, _, h, _⟩
  have := f.lev_pos
  omega
abbrev N_reach : List Str := ["formula", "one", "other"]
def ir_reach (S_reach : FSpec) : TSt :=
  (sSeq (sIf (tNotD (tVal (dIsi "tuple" (.s 0)))) (sRet (fD (dC (.int 1)))) sNext)
    (sSeq (sIf (tVal (dBin cEq (.e (dBin bIx (.s 0) (.e (dC (.int 0))))) (.e (dC (.str "pow"))))) (sRet (fD (dBi bMax2 (aCons (.e (dC (.int 1))) (aCons (.e (dBin bMulI (.e (dBin bIx (.s 0) (.e (dC (.int 2))))) (.e (dFz (fCall S_reach (aCons (.e (dBin bIx (.s 0) (.e (dC (.int 1))))) aNil)))))) aNil))))) sNext)
    (sSeq (sPar 1 2 (fCall S_reach (aCons (.e (dBin bIx (.s 0) (.e (dC (.int 1))))) aNil)) (fCall S_reach (aCons (.e (dBin bIx (.s 0) (.e (dC (.int 2))))) aNil)))
    (sRet (fD (dIte (tVal (dBin cEq (.e (dBin bIx (.s 0) (.e (dC (.int 0))))) (.e (dC (.str "mul"))))) (dBin bAdd (.s 1) (.s 2)) (dBi bMax2 (aCons (.s 1) (aCons (.s 2) aNil)))))))))
theorem sp_reach (d : Nat) : ∀ args Q, (S_reach (d + 1)).sp args Q → ir_reach (S_reach d) (endsOf args Q) (rho0 N_reach args) := by
  rintro args Q ⟨f, rfl, hl, he, q⟩
  have mx : ∀ a b : Nat, (if ((b : Nat) : Int) > ((a : Nat) : Int) then ((b : Nat) : Int) else ((a : Nat) : Int)) = ((max a b : Nat) : Int) := fun a b => by split <;> omega
  cases f with
  | int i => exact ⟨rfl, fun _ => q, nofun⟩
  | x => exact ⟨rfl, fun _ => q, nofun⟩
  | y => exact ⟨rfl, fun _ => q, nofun⟩
  | pow a n =>
    simp only [FT.lev, FT.e] at hl he
    have e1 : a.e ≤ a.e * max 1 n := Nat.le_mul_of_pos_right _ (by omega)
    have e2 : max 1 n ≤ a.e * max 1 n := Nat.le_mul_of_pos_left _ a.e_pos
    have r := rch_le a
    have em : (if ((n : Nat) : Int) * ((rch a : Nat) : Int) > 1 then ((n : Nat) : Int) * ((rch a : Nat) : Int) else 1) = ((rch (.pow a n) : Nat) : Int) := by
      have e3 : ((n : Nat) : Int) * ((rch a : Nat) : Int) = ((n * rch a : Nat) : Int) := by exact_mod_cast rfl
      rw [e3]
      exact mx 1 (n * rch a)
    rw [← em] at q
    exact ⟨rfl, nofun, fun _ => ⟨_, rfl, fun _ => ⟨_, rfl, _, rfl, rfl, a, rfl, by omega, by omega, mulOk 20 20 (by rw [Int.natAbs_natCast]; omega) (by rw [Int.natAbs_natCast]; omega), q⟩, nofun⟩⟩
  | mul a b =>
    simp only [FT.lev, FT.e] at hl he
    exact ⟨rfl, nofun, fun _ => ⟨_, rfl, nofun, fun _ => ⟨_, rfl, rfl, a, rfl, by omega, by omega, _, rfl, rfl, b, rfl, by omega, by omega, _, rfl, fun _ => q, nofun⟩⟩⟩
  | add a b =>
    simp only [FT.lev, FT.e] at hl he
    have em := mx (rch a) (rch b)
    have q : Q (.d (.int ((max (rch a) (rch b) : Nat) : Int))) [] := q
    rw [← em] at q
    exact ⟨rfl, nofun, fun _ => ⟨_, rfl, nofun, fun _ => ⟨_, rfl, rfl, a, rfl, by omega, by omega, _, rfl, rfl, b, rfl, by omega, by omega, _, rfl, nofun, fun _ => q⟩⟩⟩
  | sub a b =>
    simp only [FT.lev, FT.e] at hl he
    have em := mx (rch a) (rch b)
    have q : Q (.d (.int ((max (rch a) (rch b) : Nat) : Int))) [] := q
    rw [← em] at q
    exact ⟨rfl, nofun, fun _ => ⟨_, rfl, nofun, fun _ => ⟨_, rfl, rfl, a, rfl, by omega, by omega, _, rfl, rfl, b, rfl, by omega, by omega, _, rfl, nofun, fun _ => q⟩⟩⟩
def gr : FT → Nat
  | .pow a n => max (rch (.pow a n)) (gr a)
  | .mul a b => max (rch (.mul a b)) (max (gr a) (gr b))
  | .add a b => max (rch (.add a b)) (max (gr a) (gr b))
  | .sub a b => max (rch (.sub a b)) (max (gr a) (gr b))
  | _ => 1
def S_great (d : Nat) : FSpec := ⟨fun args Q => ∃ f : FT, args = [.d f.pd] ∧ f.lev ≤ d ∧ d ≤ 50 ∧ f.e < 2 ^ 20 ∧ f.wf ∧ Q (.d (.int ((gr f : Nat) : Int))) []⟩
theorem S_great0 : ∀ args Q, ¬ (S_great 0).sp args Q := by
  rintro args Q ⟨f, _, h, _⟩
  have := f.lev_pos
  omega
theorem gr_max {f : FT} {m : Int} (h1 : m ∈ ((rch f : Nat) : Int) :: (f.kids.map fun k => ((gr k : Nat) : Int))) (h2 : ∀ y ∈ ((rch f : Nat) : Int) :: (f.kids.map fun k => ((gr k : Nat) : Int)), y ≤ m) : m = ((gr f : Nat) : Int) := by
  cases f <;> simp only [FT.kids, List.map_cons, List.map_nil, List.mem_cons, List.not_mem_nil, or_false, forall_eq_or_imp, forall_eq] at h1 h2 <;> simp only [gr]
  all_goals first | (simp only [rch] at h1; omega) | omega
theorem kid_e {f k : FT} (h : k ∈ f.kids) : k.e ≤ f.e := by
  cases f with
  | int i => cases h
  | x => cases h
  | y => cases h
  | pow a n =>
    simp only [FT.kids, List.mem_cons, List.not_mem_nil, or_false] at h
    subst h
    exact Nat.le_mul_of_pos_right _ (by omega)
  | add a b | sub a b =>
    simp only [FT.kids, List.mem_cons, List.not_mem_nil, or_false] at h
    rcases h with rfl | rfl <;> simp only [FT.e] <;> omega
  | mul a b =>
    simp only [FT.kids, List.mem_cons, List.not_mem_nil, or_false] at h
    rcases h with rfl | rfl <;> simp only [FT.e] <;> omega
abbrev N_greatest_reach : List Str := ["formula", "one"]
def ir_greatest_reach (S_reach : FSpec) (S_inner : FSpec) (S_greatest_reach : FSpec) : TSt :=
  (sRet (fD (dBi bMax1 (aCons (.e (dBin bAdd (.e (dFz (fLst (aCons (.e (dFz (fCall S_reach (aCons (.e (dVar 0)) aNil)))) aNil)))) (.e (dFz (fLc (iSeq (dFz (fCall S_inner (aCons (.e (dVar 0)) aNil)))) [1] (.nm 1) cYes (dFz (fCall S_greatest_reach (aCons (.e (dVar 1)) aNil)))))))) aNil))))
theorem sp_great (d : Nat) : ∀ args Q, (S_great (d + 1)).sp args Q → ir_greatest_reach (S_reach 50) S_inner (S_great d) (endsOf args Q) (rho0 N_greatest_reach args) := by
  rintro args Q ⟨f, rfl, hl, hd, he, hw, q⟩
  refine ⟨rfl, f, rfl, by omega, he, rfl, f, rfl, ?_⟩
  unfold innerF
  rw [if_pos hw.good]
  have kl : f.kids.length ≤ 2 := by cases f <;> simp [FT.kids]
  refine ⟨⟨rfl, rfl⟩, fun i acc ρ => acc = (f.kids.take i).map (fun k => PyData.int ((gr k : Nat) : Int)) ∧ ρ = [some (.d f.pd), none], ⟨rfl, rfl⟩, fun _ _ _ _ => trivial, ?_, ?_⟩
  · rintro i z acc ρ hz ⟨rfl, rfl⟩
    have hz : (f.kids.map FT.pd)[i]? = some z := hz
    rw [List.getElem?_map] at hz
    obtain ⟨k, hk, rfl⟩ := Option.map_eq_some_iff.mp hz
    have km := List.mem_of_getElem? hk
    obtain ⟨kw, kv⟩ := hw.kid k km
    have ke := kid_e km
    refine ⟨fun _ => ⟨rfl, k, rfl, by omega, by omega, by omega, kw, ?_, ?_, rfl⟩, nofun⟩
    · rw [List.length_map, List.length_take, sizeLine_eq]; omega
    · rw [List.take_add_one, hk, Option.toList_some, List.map_append]
      rfl
  · rintro acc ρ ⟨rfl, rfl⟩
    have el : (Wk.items (f.kids.map FT.pd)).list.length = f.kids.length := List.length_map _
    rw [el, List.take_length]
    refine ⟨?_, ((rch f : Nat) : Int) :: (f.kids.map fun k => ((gr k : Nat) : Int)), ?_, Nat.succ_pos _, fun m h1 h2 => ?_⟩
    · show 1 + (f.kids.map fun k => PyData.int ((gr k : Nat) : Int)).length ≤ sizeLine
      rw [List.length_map, sizeLine_eq]; omega
    · rw [List.map_cons, List.map_map]; rfl
    · rw [gr_max h1 h2]
      exact q
def isF (f : FT) : Bool := hf 16 [f] 0 && decide (((gr f : Nat) : Int) ≤ 16)
def S_isform : FSpec := ⟨fun args Q => ∃ f : FT, args = [.d f.pd] ∧ f.lev ≤ 50 ∧ f.e < 2 ^ 20 ∧ Q (.d (.bool (isF f))) []⟩
theorem hf_one (f : FT) : hf 16 [f] 0 = true ↔ f.lev ≤ 16 ∧ f.wfb = true ∧ f.size ≤ 200 := by
  rw [hf_iff 16 [f] 0 (by decide)]
  simp only [List.mem_cons, List.not_mem_nil, or_false, forall_eq, szL]
  rw [Nat.add_zero, Nat.zero_add, and_assoc]
theorem isF_eq (f : FT) : isF f = (decide (f.lev ≤ 16) && f.wfb && decide (f.size ≤ 200) && decide (gr f ≤ 16)) := by
  have h := hf_one f
  unfold isF
  rw [Bool.eq_iff_iff]
  simp only [Bool.and_eq_true, decide_eq_true_iff]
  rw [h, show (((gr f : Nat) : Int) ≤ 16) ↔ gr f ≤ 16 by omega]
  simp only [and_assoc]
abbrev N_is_formula : List Str := ["value"]
def ir_is_formula (S_greatest_reach : FSpec) (S_has_form : FSpec) : TSt :=
  (sRet (fD (dAnd (dFz (fCall S_has_form (aCons (.e (dVar 0)) aNil))) (dBin cLe (.e (dFz (fCall S_greatest_reach (aCons (.e (dVar 0)) aNil)))) (.e (dC (.int 16)))))))
theorem sp_isform : ∀ args Q, S_isform.sp args Q → ir_is_formula (S_great 50) S_hasform (endsOf args Q) (rho0 N_is_formula args) := by
  rintro args Q ⟨f, rfl, hl, he, q⟩
  refine ⟨rfl, f, rfl, hl, fun h => ?_, fun h => ?_⟩
  · have h : hf 16 [f] 0 = true := h
    have w := FT.wfb_wf ((hf_one f).mp h).2.1
    have e : isF f = decide (((gr f : Nat) : Int) ≤ 16) := by unfold isF; rw [h, Bool.true_and]
    rw [e] at q
    exact ⟨rfl, f, rfl, hl, by decide, he, w, q⟩
  · have h : hf 16 [f] 0 = false := h
    have e : isF f = false := by unfold isF; rw [h, Bool.false_and]
    rw [e] at q
    exact q
end DL
namespace DL
open PySem L2 PyProof.Rows
/-! values that may be no formulas -/
def isI : PD → Bool
  | .int _ => true
  | _ => false
def lt40 (i : Int) : Bool := decide ((if i < 0 then -i else i) < 10000000000000000000000000000000000000000)
def isL : PD → Bool
  | .int i => lt40 i
  | .str s => [PyData.str "x", .str "y"].any fun z => PyData.eqv z (.str s)
  | _ => false
def S_isintP : FSpec := ⟨fun args Q => ∃ v : PD, args = [.d v] ∧ plainD v = true ∧ Q (.d (.bool (isI v))) []⟩
theorem sp_isintP : ∀ args Q, S_isintP.sp args Q → ir_is_integer (endsOf args Q) (rho0 N_is_integer args) := by
  rintro args Q ⟨v, rfl, hp, q⟩
  cases v with
  | int i => exact ⟨rfl, fun _ => ⟨rfl, q⟩, nofun⟩
  | bool b => exact ⟨rfl, fun _ => ⟨rfl, q⟩, nofun⟩
  | none => exact ⟨rfl, nofun, fun _ => q⟩
  | str s => exact ⟨rfl, nofun, fun _ => q⟩
  | list xs => exact ⟨rfl, nofun, fun _ => q⟩
  | tuple xs => exact ⟨rfl, nofun, fun _ => q⟩
  | dict es => cases hp
def S_isleafP : FSpec := ⟨fun args Q => ∃ v : PD, args = [.d v] ∧ plainD v = true ∧ Q (.d (.bool (isL v))) []⟩
theorem sp_isleafP : ∀ args Q, S_isleafP.sp args Q → ir_is_leaf S_isintP (endsOf args Q) (rho0 N_is_leaf args) := by
  rintro args Q ⟨v, rfl, hp, q⟩
  cases v with
  | int i => exact ⟨rfl, .int i, rfl, rfl, fun _ => q, nofun⟩
  | bool b => exact ⟨rfl, .bool b, rfl, rfl, nofun, fun _ => ⟨rfl, nofun, fun _ => q⟩⟩
  | none => exact ⟨rfl, .none, rfl, rfl, nofun, fun _ => ⟨rfl, nofun, fun _ => q⟩⟩
  | str s => exact ⟨rfl, .str s, rfl, rfl, nofun, fun _ => ⟨rfl, fun _ => ⟨rfl, _, rfl, rfl, q⟩, nofun⟩⟩
  | list xs => exact ⟨rfl, .list xs, rfl, rfl, nofun, fun _ => ⟨rfl, nofun, fun _ => q⟩⟩
  | tuple xs => exact ⟨rfl, .tuple xs, rfl, rfl, nofun, fun _ => ⟨rfl, nofun, fun _ => q⟩⟩
  | dict es => cases hp
inductive VT where
  | int (i : Int)
  | x
  | y
  | add (a b : VT)
  | sub (a b : VT)
  | mul (a b : VT)
  | pow (a : VT) (n : PD)
  | bad (v : PD)
def VT.pd : VT → PD
  | int i => .int i
  | x => .str "x"
  | y => .str "y"
  | add a b => .tuple [.str "add", a.pd, b.pd]
  | sub a b => .tuple [.str "sub", a.pd, b.pd]
  | mul a b => .tuple [.str "mul", a.pd, b.pd]
  | pow a n => .tuple [.str "pow", a.pd, n]
  | bad v => v
def badP : PD → Bool
  | .int _ => false
  | .str s => !([PyData.str "x", .str "y"].any fun z => PyData.eqv z (.str s))
  | .tuple [.str w, _, _] => !([PyData.str "add", .str "sub", .str "mul"].any fun z => PyData.eqv z (.str w)) && !decide (w = "pow")
  | _ => true
def VT.ok : VT → Prop
  | add a b | sub a b | mul a b => a.ok ∧ b.ok
  | pow a n => a.ok ∧ noDict n = true
  | bad v => badP v = true ∧ noDict v = true
  | _ => True
theorem plain_of {v : PD} (h : noDict v = true) : plainD v = true := by cases v <;> first | rfl | cases h
theorem noDict3 {a b c : PD} (h : noDict (.tuple [a, b, c]) = true) : noDict a = true ∧ noDict b = true ∧ noDict c = true := by
  simpa [noDict, noDictA] using h
def VT.kids : VT → List VT
  | add a b | sub a b | mul a b => [a, b]
  | pow a _ => [a]
  | _ => []
def okE : PD → Bool
  | .int k => decide (0 ≤ k) && decide (k ≤ 16)
  | _ => false
def VT.good1 : VT → Bool
  | int i => lt40 i
  | pow _ n => okE n
  | bad _ => false
  | _ => true
def VT.lev : VT → Nat
  | add a b | sub a b | mul a b => max a.lev b.lev + 1
  | pow a _ => a.lev + 1
  | _ => 1
theorem VT.lev_pos (v : VT) : 0 < v.lev := by cases v <;> simp only [lev] <;> omega
def innerV (v : VT) : PD := if v.good1 = true then .tuple (v.kids.map VT.pd) else .none
def S_innerV : FSpec := ⟨fun args Q => ∃ v : VT, args = [.d v.pd] ∧ v.ok ∧ Q (.d (innerV v)) []⟩
theorem sp_innerV : ∀ args Q, S_innerV.sp args Q → ir_inner S_isleafP S_isintP (endsOf args Q) (rho0 N_inner args) := by
  rintro args Q ⟨v, rfl, ok, q⟩
  cases v with
  | int i =>
    refine ⟨rfl, .int i, rfl, rfl, fun h => ?_, fun h => ⟨rfl, fun _ => ⟨fun _ => ?_, nofun⟩, nofun⟩⟩
    · have h : (VT.int i).good1 = true := h
      unfold innerV at q
      rw [if_pos h] at q
      exact q
    · have h : (VT.int i).good1 = false := h
      unfold innerV at q
      rw [if_neg (by rw [h]; exact Bool.false_ne_true)] at q
      exact q
  | x => exact ⟨rfl, .str "x", rfl, rfl, fun _ => q, fun h => absurd h (by decide +kernel)⟩
  | y => exact ⟨rfl, .str "y", rfl, rfl, fun _ => q, fun h => absurd h (by decide +kernel)⟩
  | add a b => exact ⟨rfl, (VT.add a b).pd, rfl, rfl, nofun, fun _ => ⟨rfl, nofun, fun _ => ⟨nofun, fun _ => ⟨_, rfl, rfl, nofun, fun _ => ⟨_, rfl, rfl, _, rfl, rfl, fun _ => q, nofun⟩⟩⟩⟩⟩
  | sub a b => exact ⟨rfl, (VT.sub a b).pd, rfl, rfl, nofun, fun _ => ⟨rfl, nofun, fun _ => ⟨nofun, fun _ => ⟨_, rfl, rfl, nofun, fun _ => ⟨_, rfl, rfl, _, rfl, rfl, fun _ => q, nofun⟩⟩⟩⟩⟩
  | mul a b => exact ⟨rfl, (VT.mul a b).pd, rfl, rfl, nofun, fun _ => ⟨rfl, nofun, fun _ => ⟨nofun, fun _ => ⟨_, rfl, rfl, nofun, fun _ => ⟨_, rfl, rfl, _, rfl, rfl, fun _ => q, nofun⟩⟩⟩⟩⟩
  | pow a n =>
    refine ⟨rfl, (VT.pow a n).pd, rfl, rfl, nofun, fun _ => ⟨rfl, nofun, fun _ => ⟨nofun, fun _ => ⟨_, rfl, rfl, nofun, fun _ => ⟨_, rfl, rfl, _, rfl, rfl, nofun, fun _ => ⟨_, rfl, fun _ => ⟨_, rfl, rfl, n, rfl, plain_of ok.2, fun hi => ?_, fun hi => ?_⟩, nofun⟩⟩⟩⟩⟩⟩
    · cases n with
      | int k =>
        refine ⟨_, rfl, fun h0 => ⟨fun h => ?_, fun h => ?_⟩, fun h0 => ?_⟩
        · have g : (VT.pow a (.int k)).good1 = true := by
            show (decide (0 ≤ k) && decide (k ≤ 16)) = true
            rw [show decide ((0 : Int) ≤ k) = true from h0, Bool.true_and]; exact h
          unfold innerV at q
          rw [if_pos g] at q
          exact q
        · have g : (VT.pow a (.int k)).good1 = false := by
            show (decide (0 ≤ k) && decide (k ≤ 16)) = false
            rw [show decide ((0 : Int) ≤ k) = true from h0, Bool.true_and]; exact h
          unfold innerV at q
          rw [if_neg (by rw [g]; exact Bool.false_ne_true)] at q
          exact q
        · have g : (VT.pow a (.int k)).good1 = false := by
            show (decide (0 ≤ k) && decide (k ≤ 16)) = false
            rw [show decide ((0 : Int) ≤ k) = false from h0, Bool.false_and]
          unfold innerV at q
          rw [if_neg (by rw [g]; exact Bool.false_ne_true)] at q
          exact ⟨nofun, fun _ => q⟩
      | none => cases hi
      | bool b => cases hi
      | str s => cases hi
      | list xs => cases hi
      | tuple xs => cases hi
      | dict es => cases hi
    · have g : (VT.pow a n).good1 = false := by
        cases n <;> first | rfl | cases hi
      unfold innerV at q
      rw [if_neg (by rw [g]; exact Bool.false_ne_true)] at q
      exact ⟨nofun, fun _ => q⟩
  | bad v =>
    obtain ⟨hb, nd⟩ := ok
    have q : Q (.d .none) [] := q
    cases v with
    | int i => cases hb
    | none => exact ⟨rfl, .none, rfl, rfl, nofun, fun _ => ⟨rfl, fun _ => ⟨fun _ => q, nofun⟩, nofun⟩⟩
    | bool b => exact ⟨rfl, .bool b, rfl, rfl, nofun, fun _ => ⟨rfl, fun _ => ⟨fun _ => q, nofun⟩, nofun⟩⟩
    | str s =>
      refine ⟨rfl, .str s, rfl, rfl, fun h => ?_, fun _ => ⟨rfl, fun _ => ⟨fun _ => q, nofun⟩, nofun⟩⟩
      have h : ([PyData.str "x", .str "y"].any fun z => PyData.eqv z (.str s)) = true := h
      have hb : (!([PyData.str "x", .str "y"].any fun z => PyData.eqv z (.str s))) = true := hb
      rw [h] at hb
      cases hb
    | list xs => exact ⟨rfl, .list xs, rfl, rfl, nofun, fun _ => ⟨rfl, fun _ => ⟨fun _ => q, nofun⟩, nofun⟩⟩
    | dict es => cases nd
    | tuple xs =>
      refine ⟨rfl, .tuple xs, rfl, rfl, nofun, fun _ => ⟨rfl, nofun, fun _ => ⟨fun _ => ⟨fun _ => q, nofun⟩, fun h => ?_⟩⟩⟩
      have h : (!decide (((xs.length : Nat) : Int) = 3)) = false := h
      have hl : xs.length = 3 := by
        rw [Bool.not_eq_false', decide_eq_true_iff] at h
        omega
      obtain ⟨a, b, c, rfl⟩ : ∃ a b c, xs = [a, b, c] := by
        match xs, hl with
        | [a, b, c], _ => exact ⟨a, b, c, rfl⟩
      obtain ⟨na, nb2, nc⟩ := noDict3 nd
      refine ⟨a, rfl, plain_of na, ?_⟩
      cases a with
      | str w =>
        have hb : (!([PyData.str "add", .str "sub", .str "mul"].any fun z => PyData.eqv z (.str w)) && !decide (w = "pow")) = true := hb
        rw [Bool.and_eq_true, Bool.not_eq_true', Bool.not_eq_true'] at hb
        refine ⟨nofun, fun _ => ⟨_, rfl, rfl, _, rfl, rfl, fun h => ?_, fun _ => ⟨_, rfl, fun h => ?_, fun _ => ⟨nofun, fun _ => q⟩⟩⟩⟩
        · have h : ([PyData.str "add", .str "sub", .str "mul"].any fun z => PyData.eqv z (.str w)) = true := h
          rw [hb.1] at h
          cases h
        · have h : decide (w = "pow") = true := h
          rw [hb.2] at h
          cases h
      | none => exact ⟨fun _ => q, nofun⟩
      | bool _ => exact ⟨fun _ => q, nofun⟩
      | int _ => exact ⟨fun _ => q, nofun⟩
      | list _ => exact ⟨fun _ => q, nofun⟩
      | tuple _ => exact ⟨fun _ => q, nofun⟩
      | dict _ => cases na
def VT.fine (v : VT) : Prop := Shp 50 v.pd ∧ v.ok
theorem Shp.item {n : Nat} {xs : List PD} (h : Shp n (.tuple xs)) {x : PD} (hx : x ∈ xs) : Shp n x := by
  obtain ⟨c, d, p⟩ := h
  refine ⟨?_, ?_, ?_⟩
  · rw [PyData.canLay0, canLayAll_map, List.all_eq_true] at c; exact c x hx
  · rw [noDict, noDictA_map, List.all_eq_true] at d; exact d x hx
  · have : x.depth ≤ PyData.depthAll xs := depthAll_mem hx
    simp only [PyData.depth] at p
    omega
where
  depthAll_mem : ∀ {xs : List PD} {x : PD}, x ∈ xs → x.depth ≤ PyData.depthAll xs
    | y :: r, x, h => by
      simp only [PyData.depthAll]
      rcases List.mem_cons.mp h with rfl | h
      · exact Nat.le_max_left _ _
      · exact Nat.le_trans (depthAll_mem h) (Nat.le_max_right _ _)
theorem VT.fine.kid {f k : VT} (h : f.fine) (hk : k ∈ f.kids) : k.fine := by
  obtain ⟨s, o⟩ := h
  cases f with
  | int i => cases hk
  | x => cases hk
  | y => cases hk
  | bad v => cases hk
  | pow a n =>
    simp only [kids, List.mem_cons, List.not_mem_nil, or_false] at hk
    subst hk
    exact ⟨s.item (.tail _ (.head _)), o.1⟩
  | add a b | sub a b | mul a b =>
    simp only [kids, List.mem_cons, List.not_mem_nil, or_false] at hk
    rcases hk with rfl | rfl
    · exact ⟨s.item (.tail _ (.head _)), o.1⟩
    · exact ⟨s.item (.tail _ (.tail _ (.head _))), o.2⟩
def stepV : List VT → Nat → List VT → Option (List VT × Nat)
  | [], p, later => some (later, p)
  | f :: r, p, later => if f.good1 = true ∧ p + 1 ≤ 200 then stepV r (p + 1) (later ++ f.kids) else none
def hfV : Nat → List VT → Nat → Bool
  | 0, layer, _ => layer.isEmpty
  | n + 1, layer, p => match stepV layer p [] with
    | none => false
    | some (later, q) => hfV n later q
def VT.size : VT → Nat
  | add a b | sub a b | mul a b => a.size + b.size + 1
  | pow a _ => a.size + 1
  | _ => 1
def szW : List VT → Nat
  | [] => 0
  | f :: r => f.size + szW r
theorem szW_app : ∀ xs ys : List VT, szW (xs ++ ys) = szW xs + szW ys
  | [], ys => by rw [List.nil_append, szW, Nat.zero_add]
  | x :: r, ys => by rw [List.cons_append, szW, szW, szW_app r ys, Nat.add_assoc]
theorem VT.size_kids (f : VT) : f.size = szW f.kids + 1 := by
  cases f <;> simp only [size, kids, szW] <;> omega
theorem VT.lev_kids (f : VT) (n : Nat) : f.lev ≤ n + 1 ↔ ∀ k ∈ f.kids, k.lev ≤ n := by
  cases f <;> simp only [lev, kids, List.mem_cons, List.not_mem_nil, or_false, forall_eq_or_imp, forall_eq, false_implies, implies_true, iff_true] <;> omega
/-- all of it is as a formula's parts are, as a test -/
def VT.wfb : VT → Bool
  | int i => lt40 i
  | add a b | sub a b | mul a b => a.wfb && b.wfb
  | pow a n => okE n && a.wfb
  | bad _ => false
  | _ => true
theorem VT.wfb_kids (f : VT) : f.wfb = true ↔ f.good1 = true ∧ ∀ k ∈ f.kids, k.wfb = true := by
  cases f <;> simp only [wfb, good1, kids, List.mem_cons, List.not_mem_nil, or_false, forall_eq_or_imp, forall_eq, false_implies, implies_true, and_true, true_and, Bool.and_eq_true, Bool.false_eq_true]
theorem stepV_some : ∀ {layer : List VT} {p : Nat} {later : List VT}, (∀ f ∈ layer, f.good1 = true) → p + layer.length ≤ 200 → stepV layer p later = some (later ++ layer.flatMap VT.kids, p + layer.length)
  | [], p, later, _, _ => by simp [stepV]
  | f :: r, p, later, h, hp => by
    rw [List.length_cons] at hp
    rw [stepV, if_pos ⟨h f List.mem_cons_self, by omega⟩, stepV_some (fun g hg => h g (List.mem_cons_of_mem _ hg)) (by omega)]
    rw [List.flatMap_cons, List.append_assoc, List.length_cons, show p + 1 + r.length = p + (r.length + 1) by omega]
theorem stepV_good : ∀ {layer : List VT} {p : Nat} {later : List VT} {x : List VT × Nat}, p ≤ 200 → stepV layer p later = some x → (∀ f ∈ layer, f.good1 = true) ∧ p + layer.length ≤ 200
  | [], p, later, x, hp, _ => ⟨fun f hfV => (by cases hfV), by simpa using hp⟩
  | f :: r, p, later, x, hp, h => by
    rw [stepV] at h
    split at h
    · rename_i c
      obtain ⟨h1, h2⟩ := stepV_good c.2 h
      refine ⟨fun g hg => ?_, by rw [List.length_cons]; omega⟩
      rcases List.mem_cons.mp hg with rfl | hg
      · exact c.1
      · exact h1 g hg
    · cases h
theorem szW_kids : ∀ layer : List VT, szW layer = layer.length + szW (layer.flatMap VT.kids)
  | [] => rfl
  | f :: r => by
    rw [szW, List.flatMap_cons, szW_app, List.length_cons, szW_kids r, f.size_kids]
    omega
theorem hfV_iff : ∀ (n : Nat) (layer : List VT) (p : Nat), p ≤ 200 → (hfV n layer p = true ↔ (∀ f ∈ layer, f.lev ≤ n ∧ f.wfb = true) ∧ p + szW layer ≤ 200)
  | 0, layer, p, hp => by
    cases layer with
    | nil => exact ⟨fun _ => ⟨fun f hfV => (by cases hfV), by simpa [szW] using hp⟩, fun _ => rfl⟩
    | cons f r =>
      refine ⟨nofun, fun h => ?_⟩
      have a := (h.1 f List.mem_cons_self).1
      have b := f.lev_pos
      omega
  | n + 1, layer, p, hp => by
    rw [hfV]
    refine ⟨fun h => ?_, fun ⟨h1, h2⟩ => ?_⟩
    · cases e : stepV layer p [] with
      | none => rw [e] at h; cases h
      | some x =>
        obtain ⟨g1, g2⟩ := stepV_good hp e
        rw [stepV_some g1 g2, List.nil_append] at e
        rw [stepV_some g1 g2, List.nil_append] at h
        obtain ⟨k1, k2⟩ := (hfV_iff n _ _ g2).mp h
        refine ⟨fun f hfV => ⟨(f.lev_kids n).mpr fun k hk => (k1 k (List.mem_flatMap.mpr ⟨f, hfV, hk⟩)).1, (f.wfb_kids).mpr ⟨g1 f hfV, fun k hk => (k1 k (List.mem_flatMap.mpr ⟨f, hfV, hk⟩)).2⟩⟩, ?_⟩
        rw [szW_kids]
        omega
    · have g1 : ∀ f ∈ layer, f.good1 = true := fun f hfV => ((f.wfb_kids).mp (h1 f hfV).2).1
      rw [szW_kids] at h2
      rw [stepV_some g1 (by omega), List.nil_append]
      refine (hfV_iff n _ _ (by omega)).mpr ⟨fun k hk => ?_, by omega⟩
      obtain ⟨f, hfV, hk⟩ := List.mem_flatMap.mp hk
      exact ⟨(f.lev_kids n).mp (h1 f hfV).1 k hk, ((f.wfb_kids).mp (h1 f hfV).2).2 k hk⟩
def S_hasformV : FSpec := ⟨fun args Q => ∃ f : VT, args = [.d f.pd] ∧ f.fine ∧ Q (.d (.bool (hfV 16 [f] 0))) []⟩
theorem sp_hasformV : ∀ args Q, S_hasformV.sp args Q → ir_has_form S_innerV (endsOf args Q) (rho0 N_has_form args) := by
  rintro args Q ⟨f, rfl, hlev, q⟩
  have shL : ∀ layer : List VT, (∀ g ∈ layer, g.fine) → shp (.list (layer.map VT.pd)) := fun layer h => (Shp.list (n := 50) fun z hz => by
    obtain ⟨g, hg, rfl⟩ := List.mem_map.mp hz
    exact (h g hg).1).shp
  refine ⟨by decide, _, rfl, fun i ρ => ∃ (layer : List VT) (p : Nat) (l : Lc) (s3 s4 s5 s6 : Option Lc), ρ = [some (.d f.pd), some l, some (.d (.int (p : Nat))), s3, s4, s5, s6] ∧ (l = .d (.list (layer.map VT.pd)) ∨ l = .ls none (layer.map VT.pd)) ∧ (∀ g ∈ layer, g.fine) ∧ p ≤ 200 ∧ hfV (16 - i) layer p = hfV 16 [f] 0, ⟨[f], 0, _, none, none, none, none, rfl, .inr rfl, fun g hg => (by rw [List.mem_singleton.mp hg]; exact hlev), by decide, rfl⟩, ?_, ?_⟩
  · rintro i x ρ hx ⟨layer, p, l, s3, s4, s5, s6, rfl, hll, hlv, hp, hh⟩
    obtain ⟨rfl, hi⟩ := rngD_get hx
    have hi : i < 16 := hi
    obtain ⟨n, hn⟩ : ∃ n, 16 - i = n + 1 := ⟨15 - i, by omega⟩
    have n1 : 16 - (i + 1) = n := by omega
    rw [hn] at hh
    rcases hll with rfl | rfl
    all_goals
      refine ⟨_, rfl, fun j ρ => ∃ (later : List VT) (s5 s6 : Option Lc), ρ = [some (.d f.pd), some (.d (.list (layer.map VT.pd))), some (.d (.int ((p + j : Nat) : Int))), some (.d (.int (0 + (i : Nat)))), some (.ls none (later.map VT.pd)), s5, s6] ∧ later.length ≤ 2 * j ∧ (∀ g ∈ later, g.fine) ∧ (p + j ≤ 200 ∧ stepV (layer.drop j) (p + j) later = stepV layer p []), ⟨[], s5, s6, rfl, by decide, fun g hg => (by cases hg), by omega, by rw [List.drop_zero]; rfl⟩, ?_, ?_⟩
      · rintro j z ρ hz ⟨later, s5, s6, rfl, hlen, hlv2, hpj, hst⟩
        have hz : (layer.map VT.pd)[j]? = some z := hz
        rw [List.getElem?_map] at hz
        obtain ⟨g, hg, rfl⟩ := Option.map_eq_some_iff.mp hz
        have gm := List.mem_of_getElem? hg
        have dr : layer.drop j = g :: layer.drop (j + 1) := by
          obtain ⟨hj, e⟩ := List.getElem?_eq_some_iff.mp hg
          rw [List.drop_eq_getElem_cons hj, e]
        rw [dr, stepV] at hst
        have no : ¬ (g.good1 = true ∧ p + j + 1 ≤ 200) → hfV 16 [f] 0 = false := fun c => by
          rw [if_neg c] at hst
          rw [← hh, hfV, ← hst]
        have ej : ((p + j : Nat) : Int) + 1 = ((p + (j + 1) : Nat) : Int) := by omega
        refine ⟨rfl, g, rfl, (hlv g gm).2, ⟨rfl, fun h => ⟨fun _ => ?_, nofun⟩, fun h => ⟨fun h2 => ?_, fun h2 => ?_⟩⟩⟩
        · have h : isNone (innerV g) = true := h
          have c : hfV 16 [f] 0 = false := no fun c => by unfold innerV at h; rw [if_pos c.1] at h; cases h
          rw [c] at q
          exact q
        · have h2 : (200 : Int) < ((p + j : Nat) : Int) + 1 := of_decide_eq_true h2
          have c : hfV 16 [f] 0 = false := no fun c => by omega
          rw [c] at q
          exact q
        · have h : isNone (innerV g) = false := h
          have h2 : ¬ (200 : Int) < ((p + j : Nat) : Int) + 1 := of_decide_eq_false h2
          have gg : g.good1 = true := by
            unfold innerV at h
            split at h
            · assumption
            · cases h
          have ei : innerV g = .tuple (g.kids.map VT.pd) := by unfold innerV; rw [if_pos gg]
          rw [if_pos ⟨gg, by omega⟩] at hst
          have kl : g.kids.length ≤ 2 := by cases g <;> simp [VT.kids]
          rw [ei]
          refine ⟨?_, later ++ g.kids, some (.d g.pd), some (.d (.tuple (g.kids.map VT.pd))), ?_, by rw [List.length_append]; omega, fun k hk => ?_, by omega, hst⟩
          · show (later.map VT.pd).length + (g.kids.map VT.pd).length ≤ sizeLine
            rw [List.length_map, List.length_map, sizeLine_eq]; omega
          · rw [List.map_append, ← ej]
            rfl
          · rcases List.mem_append.mp hk with hk | hk
            · exact hlv2 k hk
            · exact (hlv g gm).kid hk
      · rintro ρ ⟨later, s5, s6, rfl, hlen, hlv2, hpj, hst⟩
        have el : (layer.map VT.pd).length = layer.length := List.length_map _
        rw [el] at hpj hst hlen
        rw [List.drop_length, stepV] at hst
        rw [el]
        refine ⟨later, p + layer.length, _, _, _, _, _, rfl, .inl rfl, hlv2, hpj, ?_⟩
        rw [n1, ← hh, hfV, ← hst]
  · rintro ρ ⟨layer, p, l, s3, s4, s5, s6, rfl, hll, hlv, hp, hh⟩
    have el : (rngD 0 ((16 : Int)).toNat).length = 16 := rngD_len
    rw [el, Nat.sub_self, hfV] at hh
    rw [← hh] at q
    have e : PyData.eqv (.list (layer.map VT.pd)) (.list []) = layer.isEmpty := by rw [eqv_nil, List.isEmpty_map]
    rw [← e] at q
    rcases hll with rfl | rfl
    · exact ⟨shL layer hlv, ⟨rfl, rfl⟩, q⟩
    · exact ⟨shL layer hlv, ⟨rfl, rfl⟩, q⟩
end DL
namespace DL
open PySem L2 PyProof.Rows
/-! formulas among values -/
def FT.vt : FT → VT
  | .int i => .int i
  | .x => .x
  | .y => .y
  | .add a b => .add a.vt b.vt
  | .sub a b => .sub a.vt b.vt
  | .mul a b => .mul a.vt b.vt
  | .pow a n => .pow a.vt (.int (n : Nat))
theorem FT.vt_pd : ∀ f : FT, f.vt.pd = f.pd
  | .int i => rfl
  | .x => rfl
  | .y => rfl
  | .add a b => by show PyData.tuple [.str "add", a.vt.pd, b.vt.pd] = .tuple [.str "add", a.pd, b.pd]; rw [vt_pd a, vt_pd b]
  | .sub a b => by show PyData.tuple [.str "sub", a.vt.pd, b.vt.pd] = .tuple [.str "sub", a.pd, b.pd]; rw [vt_pd a, vt_pd b]
  | .mul a b => by show PyData.tuple [.str "mul", a.vt.pd, b.vt.pd] = .tuple [.str "mul", a.pd, b.pd]; rw [vt_pd a, vt_pd b]
  | .pow a n => by show PyData.tuple [.str "pow", a.vt.pd, .int n] = .tuple [.str "pow", a.pd, .int n]; rw [vt_pd a]
theorem FT.vt_ok : ∀ f : FT, f.vt.ok
  | .int i => trivial
  | .x => trivial
  | .y => trivial
  | .add a b => ⟨a.vt_ok, b.vt_ok⟩
  | .sub a b => ⟨a.vt_ok, b.vt_ok⟩
  | .mul a b => ⟨a.vt_ok, b.vt_ok⟩
  | .pow a n => ⟨a.vt_ok, rfl⟩
theorem FT.vt_kids (f : FT) : f.vt.kids = f.kids.map FT.vt := by cases f <;> rfl
theorem FT.vt_lev : ∀ f : FT, f.vt.lev = f.lev
  | .int i => rfl
  | .x => rfl
  | .y => rfl
  | .add a b => by simp only [vt, VT.lev, lev, vt_lev a, vt_lev b]
  | .sub a b => by simp only [vt, VT.lev, lev, vt_lev a, vt_lev b]
  | .mul a b => by simp only [vt, VT.lev, lev, vt_lev a, vt_lev b]
  | .pow a n => by simp only [vt, VT.lev, lev, vt_lev a]
theorem okE_nat (n : Nat) : okE (.int (n : Nat)) = decide (((n : Nat) : Int) ≤ 16) := by
  show (decide ((0 : Int) ≤ ((n : Nat) : Int)) && decide (((n : Nat) : Int) ≤ 16)) = _
  rw [decide_eq_true (show (0 : Int) ≤ ((n : Nat) : Int) by omega), Bool.true_and]
theorem FT.vt_good (f : FT) : f.vt.good1 = f.good1 := by
  cases f with
  | pow a n => exact okE_nat n
  | _ => rfl
theorem FT.vt_wfb : ∀ f : FT, f.vt.wfb = f.wfb
  | .int i => rfl
  | .x => rfl
  | .y => rfl
  | .add a b => by simp only [vt, VT.wfb, wfb, vt_wfb a, vt_wfb b]
  | .sub a b => by simp only [vt, VT.wfb, wfb, vt_wfb a, vt_wfb b]
  | .mul a b => by simp only [vt, VT.wfb, wfb, vt_wfb a, vt_wfb b]
  | .pow a n => by simp only [vt, VT.wfb, wfb, vt_wfb a, okE_nat]
theorem FT.vt_size : ∀ f : FT, f.vt.size = f.size
  | .int i => rfl
  | .x => rfl
  | .y => rfl
  | .add a b => by simp only [vt, VT.size, size, vt_size a, vt_size b]
  | .sub a b => by simp only [vt, VT.size, size, vt_size a, vt_size b]
  | .mul a b => by simp only [vt, VT.size, size, vt_size a, vt_size b]
  | .pow a n => by simp only [vt, VT.size, size, vt_size a]
theorem innerV_vt {f : FT} (h : f.good1 = true) : innerV f.vt = .tuple (f.kids.map FT.pd) := by
  unfold innerV
  rw [f.vt_good, if_pos h, f.vt_kids, List.map_map]
  congr 1
  exact List.map_congr_left fun k _ => k.vt_pd
/-- the formula that a right value is -/
def VT.ft : VT → FT
  | .int i => .int i
  | .x => .x
  | .y => .y
  | .add a b => .add a.ft b.ft
  | .sub a b => .sub a.ft b.ft
  | .mul a b => .mul a.ft b.ft
  | .pow a (.int k) => .pow a.ft k.toNat
  | .pow a _ => a.ft
  | .bad _ => .x
theorem VT.ft_vt : ∀ {v : VT}, v.wfb = true → v.ft.vt = v
  | .int i, _ => rfl
  | .x, _ => rfl
  | .y, _ => rfl
  | .add a b, h => by simp only [wfb, Bool.and_eq_true] at h; simp only [ft, FT.vt, ft_vt h.1, ft_vt h.2]
  | .sub a b, h => by simp only [wfb, Bool.and_eq_true] at h; simp only [ft, FT.vt, ft_vt h.1, ft_vt h.2]
  | .mul a b, h => by simp only [wfb, Bool.and_eq_true] at h; simp only [ft, FT.vt, ft_vt h.1, ft_vt h.2]
  | .pow a n, h => by
    simp only [wfb, Bool.and_eq_true] at h
    cases n with
    | int k =>
      have h1 : (decide ((0 : Int) ≤ k) && decide (k ≤ 16)) = true := h.1
      rw [Bool.and_eq_true, decide_eq_true_iff, decide_eq_true_iff] at h1
      simp only [ft, FT.vt, ft_vt h.2]
      rw [Int.toNat_of_nonneg h1.1]
    | none => cases h.1
    | bool b => cases h.1
    | str s => cases h.1
    | list xs => cases h.1
    | tuple xs => cases h.1
    | dict es => cases h.1
  | .bad v, h => by cases h
theorem VT.ft_wf {v : VT} (h : v.wfb = true) : v.ft.wf := FT.wfb_wf (by rw [← FT.vt_wfb, ft_vt h]; exact h)
theorem VT.ft_pd {v : VT} (h : v.wfb = true) : v.ft.pd = v.pd := by rw [← FT.vt_pd, ft_vt h]
theorem VT.ft_lev {v : VT} (h : v.wfb = true) : v.ft.lev = v.lev := by rw [← FT.vt_lev, ft_vt h]
theorem wf_e : ∀ {f : FT}, f.wf → f.e ≤ 16 ^ f.lev
  | .int i, _ => by show 1 ≤ 16 ^ 1; decide
  | .x, _ => by decide
  | .y, _ => by decide
  | .add a b, h => key (wf_e h.1) (wf_e h.2) (by simp only [FT.e]; omega)
  | .sub a b, h => key (wf_e h.1) (wf_e h.2) (by simp only [FT.e]; omega)
  | .mul a b, h => key (wf_e h.1) (wf_e h.2) (by simp only [FT.e]; omega)
  | .pow a n, h => by
    have h1 := wf_e h.1
    have h2 : n ≤ 16 := h.2
    simp only [FT.e, FT.lev, Nat.pow_succ]
    exact Nat.mul_le_mul h1 (by omega)
where
  key {x y l m z : Nat} (h1 : x ≤ 16 ^ l) (h2 : y ≤ 16 ^ m) (h3 : z ≤ x + y) : z ≤ 16 ^ (max l m + 1) := by
    have a : 16 ^ l ≤ 16 ^ max l m := Nat.pow_le_pow_right (by decide) (Nat.le_max_left _ _)
    have b : 16 ^ m ≤ 16 ^ max l m := Nat.pow_le_pow_right (by decide) (Nat.le_max_right _ _)
    rw [Nat.pow_succ]
    omega
theorem wf_small {f : FT} (h : f.wf) (hl : f.lev ≤ 16) : f.e < 2 ^ 100 := Nat.lt_of_le_of_lt (wf_e h) (Nat.lt_of_le_of_lt (Nat.pow_le_pow_right (by decide) hl) (by decide))
theorem lone_bodyV (d : Nat) {f : FT} (hd : d ≤ 60) (hl : f.lev ≤ d + 1) (hw : f.wf) {Q : PD → En → Prop} (q : Q (.bool (f.kids.all fun k => !k.hasY)) [some (.d f.pd), none]) :
    (dBi bAll (aCons (.e (dFz (fLc (iSeq (dFz (fCall S_innerV (aCons (.e (dVar 0)) aNil)))) [1] (.nm 1) cYes (dFz (fCall (S_lone d) (aCons (.e (dVar 1)) aNil)))))) aNil)) [some (.d f.pd), none] Q := by
  refine ⟨rfl, f.vt, by rw [f.vt_pd], f.vt_ok, ?_⟩
  rw [innerV_vt hw.good]
  refine ⟨⟨rfl, rfl⟩, fun i acc ρ => acc = (f.kids.take i).map (fun k => PyData.bool (!k.hasY)) ∧ ρ = [some (.d f.pd), none], ⟨rfl, rfl⟩, fun _ _ _ _ => trivial, ?_, ?_⟩
  · rintro i z acc ρ hz ⟨rfl, rfl⟩
    have hz : (f.kids.map FT.pd)[i]? = some z := hz
    rw [List.getElem?_map] at hz
    obtain ⟨k, hk, rfl⟩ := Option.map_eq_some_iff.mp hz
    obtain ⟨kw, kl⟩ := hw.kid k (List.mem_of_getElem? hk)
    refine ⟨fun _ => ⟨rfl, k, rfl, by omega, hd, kw, ?_, ?_, rfl⟩, nofun⟩
    · have : f.kids.length ≤ 2 := by cases f <;> simp [FT.kids]
      rw [List.length_map, List.length_take, sizeLine_eq]; omega
    · rw [List.take_add_one, hk, Option.toList_some, List.map_append]
      rfl
  · rintro acc ρ ⟨rfl, rfl⟩
    have el : (Wk.items (f.kids.map FT.pd)).list.length = f.kids.length := List.length_map _
    rw [el, List.take_length]
    refine ⟨f.kids.map fun k => !k.hasY, by rw [List.map_map]; rfl, ?_⟩
    have e : (f.kids.map fun k => !k.hasY).all id = f.kids.all fun k => !k.hasY := by rw [List.all_map]; rfl
    first
      | (rw [← e] at q; exact q)
      | exact q
theorem sp_loneV (d : Nat) : ∀ args Q, (S_lone (d + 1)).sp args Q → ir_is_lone S_innerV (S_lone d) (endsOf args Q) (rho0 N_is_lone args) := by
  rintro args Q ⟨f, rfl, hl, hd, hw, q⟩
  have sh : shp f.pd := (f.shpN.mono (by omega : f.lev ≤ 61)).shp
  have sy : shp (.str "y") := (FT.y.shpN).shp
  have d60 : d ≤ 60 := by omega
  cases f with
  | int i => exact ⟨sh, sy, fun _ => lone_bodyV d d60 hl hw q, nofun⟩
  | x => exact ⟨fun _ => lone_bodyV d d60 hl hw q, nofun⟩
  | y => exact ⟨nofun, fun _ => q⟩
  | add a b =>
    have e : (!(FT.add a b).hasY) = (FT.add a b).kids.all fun k => !k.hasY := by simp [FT.hasY, FT.kids]
    rw [e] at q
    exact ⟨sh, sy, fun _ => lone_bodyV d d60 hl hw q, nofun⟩
  | sub a b =>
    have e : (!(FT.sub a b).hasY) = (FT.sub a b).kids.all fun k => !k.hasY := by simp [FT.hasY, FT.kids]
    rw [e] at q
    exact ⟨sh, sy, fun _ => lone_bodyV d d60 hl hw q, nofun⟩
  | mul a b =>
    have e : (!(FT.mul a b).hasY) = (FT.mul a b).kids.all fun k => !k.hasY := by simp [FT.hasY, FT.kids]
    rw [e] at q
    exact ⟨sh, sy, fun _ => lone_bodyV d d60 hl hw q, nofun⟩
  | pow a n =>
    have e : (!(FT.pow a n).hasY) = (FT.pow a n).kids.all fun k => !k.hasY := by simp [FT.hasY, FT.kids]
    rw [e] at q
    exact ⟨sh, sy, fun _ => lone_bodyV d d60 hl hw q, nofun⟩
def S_reachW (d : Nat) : FSpec := ⟨fun args Q => ∃ f : FT, args = [.d f.pd] ∧ f.lev ≤ d ∧ f.e < 2 ^ 100 ∧ Q (.d (.int ((rch f : Nat) : Int))) []⟩
theorem S_reachW0 : ∀ args Q, ¬ (S_reachW 0).sp args Q := by
  rintro args Q ⟨f, _, h, _⟩
  have := f.lev_pos
  omega
theorem sp_reachW (d : Nat) : ∀ args Q, (S_reachW (d + 1)).sp args Q → ir_reach (S_reachW d) (endsOf args Q) (rho0 N_reach args) := by
  rintro args Q ⟨f, rfl, hl, he, q⟩
  have mx : ∀ a b : Nat, (if ((b : Nat) : Int) > ((a : Nat) : Int) then ((b : Nat) : Int) else ((a : Nat) : Int)) = ((max a b : Nat) : Int) := fun a b => by split <;> omega
  cases f with
  | int i => exact ⟨rfl, fun _ => q, nofun⟩
  | x => exact ⟨rfl, fun _ => q, nofun⟩
  | y => exact ⟨rfl, fun _ => q, nofun⟩
  | pow a n =>
    simp only [FT.lev, FT.e] at hl he
    have e1 : a.e ≤ a.e * max 1 n := Nat.le_mul_of_pos_right _ (by omega)
    have e2 : max 1 n ≤ a.e * max 1 n := Nat.le_mul_of_pos_left _ a.e_pos
    have r := rch_le a
    have em : (if ((n : Nat) : Int) * ((rch a : Nat) : Int) > 1 then ((n : Nat) : Int) * ((rch a : Nat) : Int) else 1) = ((rch (.pow a n) : Nat) : Int) := by
      have e3 : ((n : Nat) : Int) * ((rch a : Nat) : Int) = ((n * rch a : Nat) : Int) := by exact_mod_cast rfl
      rw [e3]
      exact mx 1 (n * rch a)
    rw [← em] at q
    exact ⟨rfl, nofun, fun _ => ⟨_, rfl, fun _ => ⟨_, rfl, _, rfl, rfl, a, rfl, by omega, by omega, mulOk 120 120 (by rw [Int.natAbs_natCast]; omega) (by rw [Int.natAbs_natCast]; omega), q⟩, nofun⟩⟩
  | mul a b =>
    simp only [FT.lev, FT.e] at hl he
    exact ⟨rfl, nofun, fun _ => ⟨_, rfl, nofun, fun _ => ⟨_, rfl, rfl, a, rfl, by omega, by omega, _, rfl, rfl, b, rfl, by omega, by omega, _, rfl, fun _ => q, nofun⟩⟩⟩
  | add a b =>
    simp only [FT.lev, FT.e] at hl he
    have em := mx (rch a) (rch b)
    have q : Q (.d (.int ((max (rch a) (rch b) : Nat) : Int))) [] := q
    rw [← em] at q
    exact ⟨rfl, nofun, fun _ => ⟨_, rfl, nofun, fun _ => ⟨_, rfl, rfl, a, rfl, by omega, by omega, _, rfl, rfl, b, rfl, by omega, by omega, _, rfl, nofun, fun _ => q⟩⟩⟩
  | sub a b =>
    simp only [FT.lev, FT.e] at hl he
    have em := mx (rch a) (rch b)
    have q : Q (.d (.int ((max (rch a) (rch b) : Nat) : Int))) [] := q
    rw [← em] at q
    exact ⟨rfl, nofun, fun _ => ⟨_, rfl, nofun, fun _ => ⟨_, rfl, rfl, a, rfl, by omega, by omega, _, rfl, rfl, b, rfl, by omega, by omega, _, rfl, nofun, fun _ => q⟩⟩⟩
def S_greatW (d : Nat) : FSpec := ⟨fun args Q => ∃ f : FT, args = [.d f.pd] ∧ f.lev ≤ d ∧ d ≤ 50 ∧ f.e < 2 ^ 100 ∧ f.wf ∧ Q (.d (.int ((gr f : Nat) : Int))) []⟩
theorem S_greatW0 : ∀ args Q, ¬ (S_greatW 0).sp args Q := by
  rintro args Q ⟨f, _, h, _⟩
  have := f.lev_pos
  omega
theorem sp_greatW (d : Nat) : ∀ args Q, (S_greatW (d + 1)).sp args Q → ir_greatest_reach (S_reachW 50) S_innerV (S_greatW d) (endsOf args Q) (rho0 N_greatest_reach args) := by
  rintro args Q ⟨f, rfl, hl, hd, he, hw, q⟩
  refine ⟨rfl, f, rfl, by omega, he, rfl, f.vt, by rw [f.vt_pd], f.vt_ok, ?_⟩
  rw [innerV_vt hw.good]
  have kl : f.kids.length ≤ 2 := by cases f <;> simp [FT.kids]
  refine ⟨⟨rfl, rfl⟩, fun i acc ρ => acc = (f.kids.take i).map (fun k => PyData.int ((gr k : Nat) : Int)) ∧ ρ = [some (.d f.pd), none], ⟨rfl, rfl⟩, fun _ _ _ _ => trivial, ?_, ?_⟩
  · rintro i z acc ρ hz ⟨rfl, rfl⟩
    have hz : (f.kids.map FT.pd)[i]? = some z := hz
    rw [List.getElem?_map] at hz
    obtain ⟨k, hk, rfl⟩ := Option.map_eq_some_iff.mp hz
    have km := List.mem_of_getElem? hk
    obtain ⟨kw, kv⟩ := hw.kid k km
    have ke := kid_e km
    refine ⟨fun _ => ⟨rfl, k, rfl, by omega, by omega, by omega, kw, ?_, ?_, rfl⟩, nofun⟩
    · rw [List.length_map, List.length_take, sizeLine_eq]; omega
    · rw [List.take_add_one, hk, Option.toList_some, List.map_append]
      rfl
  · rintro acc ρ ⟨rfl, rfl⟩
    have el : (Wk.items (f.kids.map FT.pd)).list.length = f.kids.length := List.length_map _
    rw [el, List.take_length]
    refine ⟨?_, ((rch f : Nat) : Int) :: (f.kids.map fun k => ((gr k : Nat) : Int)), ?_, Nat.succ_pos _, fun m h1 h2 => ?_⟩
    · show 1 + (f.kids.map fun k => PyData.int ((gr k : Nat) : Int)).length ≤ sizeLine
      rw [List.length_map, sizeLine_eq]; omega
    · rw [List.map_cons, List.map_map]; rfl
    · rw [gr_max h1 h2]
      exact q
/-- whether a value is a formula -/
def isV (v : VT) : Bool := hfV 16 [v] 0 && decide (((gr v.ft : Nat) : Int) ≤ 16)
theorem hfV_one (f : VT) : hfV 16 [f] 0 = true ↔ f.lev ≤ 16 ∧ f.wfb = true ∧ f.size ≤ 200 := by
  rw [hfV_iff 16 [f] 0 (by decide)]
  simp only [List.mem_cons, List.not_mem_nil, or_false, forall_eq, szW]
  rw [Nat.add_zero, Nat.zero_add, and_assoc]
def S_isformV : FSpec := ⟨fun args Q => ∃ f : VT, args = [.d f.pd] ∧ f.fine ∧ Q (.d (.bool (isV f))) []⟩
theorem sp_isformV : ∀ args Q, S_isformV.sp args Q → ir_is_formula (S_greatW 50) S_hasformV (endsOf args Q) (rho0 N_is_formula args) := by
  rintro args Q ⟨f, rfl, hf, q⟩
  refine ⟨rfl, f, rfl, hf, fun h => ?_, fun h => ?_⟩
  · have h : hfV 16 [f] 0 = true := h
    have w := (hfV_one f).mp h
    have e : isV f = decide (((gr f.ft : Nat) : Int) ≤ 16) := by unfold isV; rw [h, Bool.true_and]
    rw [e] at q
    have fw := VT.ft_wf w.2.1
    have fl : f.ft.lev ≤ 16 := by rw [VT.ft_lev w.2.1]; exact w.1
    exact ⟨rfl, f.ft, by rw [VT.ft_pd w.2.1], by omega, by decide, wf_small fw fl, fw, q⟩
  · have h : hfV 16 [f] 0 = false := h
    have e : isV f = false := by unfold isV; rw [h, Bool.false_and]
    rw [e] at q
    exact q
end DL
/-! The data layer, part m-b: tuples put together, the left one empty too. -/
namespace DL
open PySem L2 PyProof.Rows
section
variable {X : Cx} {K : PySem.W.Frag} {F H : Hp}
def rCat0 (K : PySem.W.Frag) : R2 := fun x y H Q => ∃ a b ys, x = .ref a ∧ y = .ref b ∧ SqT K H a [] ∧ SqT K H b ys ∧ Q (.ref b) H
theorem op_cat0 : OpR X (binaryOp .Add) (rCat0 X.K) := fun pins z σ H x y u1 u2 Q I rx ry ⟨a, b, ys, ex, ey, ha, hb, q⟩ => by
  subst ex ey
  cases rx
  cases ry
  obtain ⟨l1, v1, t1, _⟩ := I.tuple ha
  obtain ⟨l2, _, t2, _⟩ := I.tuple hb
  have none_ : l1 = [] := v1.nil_iff.mpr rfl
  obtain ⟨⟨k1, e1, w1, s1⟩, g1, c1, n1, d1⟩ := id t1
  obtain ⟨⟨k2, e2, w2, s2⟩, g2, c2, n2, d2⟩ := id t2
  simp only at c1 d1 c2 d2
  subst c1 d1 c2 d2
  refine concat_meets ⟨_, g1, rfl⟩ ⟨_, g2, rfl⟩ noFill_tuple_add seq_tuple_add PySem.F.slot_tuple_add PySem.F.entry_tuple_add (PySem.F.args_tuple_add_2 _ _) (tuple_addW0 a b l1.toArray l2.toArray n1 n2 e1 e2 s1 s2 (by simp [none_])) ?_
  exact ⟨g1, g2, ⟨.ref b, H, I, rfl, q⟩⟩
def bAddT : F2
  | .tuple xs, .tuple ys, k => xs.length + ys.length ≤ sizeLine ∧ k (.tuple (xs ++ ys))
  | _, _, _ => False
def rAddT (K : PySem.W.Frag) : R2 := fun x y H Q => rCatT K x y H Q ∨ rCat0 K x y H Q
theorem op_addT : OpR X (binaryOp .Add) (rAddT X.K) := op_catT.or op_cat0
theorem ok_addT : Op2Ok K bAddT (rAddT K) := by
  intro F H vx vy x y k Q s dx dy h c
  unfold bAddT at h
  split at h
  · obtain ⟨a, vs, rfl, q, d⟩ := dx.tup s
    obtain ⟨b, us, rfl, q2, d2⟩ := dy.tup s
    obtain ⟨h2, h3⟩ := h
    by_cases ne : vs = []
    · subst ne
      cases d
      rw [List.nil_append] at h3
      refine .inr ⟨a, b, us, rfl, rfl, q, q2, ?_⟩
      cases dy with
      | f dy => exact c _ _ F H h3 (Grow.refl s) dy
    · refine .inl ⟨a, b, vs, us, rfl, rfl, q, q2, ne, by rw [d.length, d2.length]; exact h2, ?_, ?_⟩
      · intro e
        have : us = [] := e
        subst this
        cases d2
        rw [List.append_nil] at h3
        cases dx with
        | f dx => exact c _ _ F H h3 (Grow.refl s) dx
      · intro _ p hp
        have g := Grow.frozen s hp (.tup (vs ++ us))
        exact c _ _ _ _ h3 g (.tup (SqT.of upd_same) ((d.append d2).mono g.ff))
  · exact False.elim h
end
end DL
namespace DL
open PySem L2 PyProof.Rows
/-! what a formula is, by the law -/
abbrev N_law_is_leaf_a50f : List Str := ["value"]
def ir_law_is_leaf_a50f : TSt :=
  (sSeq (sIf (tVal (dIsi "str" (.s 0))) (sRet (fD (dBin (cIn false) (.s 0) (.e (dFz (fLst (aCons (.e (dC (.str "x"))) (aCons (.e (dC (.str "y"))) aNil)))))))) sNext)
    (sRet (fD (dAnd (dIsi "int" (.s 0)) (dAnd (dNot (dIsi "bool" (.s 0))) (dBin cLt (.e (dBi bAbs (aCons (.s 0) aNil))) (.e (dBin bPow (.e (dC (.int 10))) (.e (dC (.int 40)))))))))))
theorem lt40_eq (i : Int) : lt40 i = decide ((if i < 0 then -i else i) < 10 ^ (40 : Int).toNat) := rfl
theorem sp_lisleaf : ∀ args Q, S_isleafP.sp args Q → ir_law_is_leaf_a50f (endsOf args Q) (rho0 N_law_is_leaf_a50f args) := by
  rintro args Q ⟨v, rfl, hp, q⟩
  cases v with
  | int i => exact ⟨rfl, nofun, fun _ => ⟨rfl, fun _ => ⟨rfl, fun _ => ⟨⟨by decide, by decide⟩, q⟩, nofun⟩, nofun⟩⟩
  | bool b => exact ⟨rfl, nofun, fun _ => ⟨rfl, fun _ => ⟨rfl, nofun, fun _ => q⟩, nofun⟩⟩
  | none => exact ⟨rfl, nofun, fun _ => ⟨rfl, nofun, fun _ => q⟩⟩
  | str s => exact ⟨rfl, fun _ => ⟨rfl, _, rfl, rfl, q⟩, nofun⟩
  | list xs => exact ⟨rfl, nofun, fun _ => ⟨rfl, nofun, fun _ => q⟩⟩
  | tuple xs => exact ⟨rfl, nofun, fun _ => ⟨rfl, nofun, fun _ => q⟩⟩
  | dict es => cases hp
def S_lispart : FSpec := ⟨fun args Q => ∃ v : VT, args = [.d v.pd] ∧ v.ok ∧ Q (.d (.bool v.good1)) []⟩
abbrev N_law_is_part_88ea : List Str := ["one", "is_whole"]
def ir_law_is_part_88ea (S_law_is_leaf_a50f : FSpec) : TSt :=
  (sSeq (sIf (tVal (dFz (fCall S_law_is_leaf_a50f (aCons (.e (dVar 0)) aNil)))) (sRet (fD (dC (.bool true)))) sNext)
    (sSeq (sIf (tOrD (tNotD (tVal (dIsi "tuple" (.s 0)))) (tOrD (tVal (dBin cNe (.e (dBi bLen (aCons (.s 0) aNil))) (.e (dC (.int 3))))) (tNotD (tVal (dIsi "str" (.e (dBin bIx (.s 0) (.e (dC (.int 0)))))))))) (sRet (fD (dC (.bool false)))) sNext)
    (sSeq (sIf (tVal (dBin (cIn false) (.e (dBin bIx (.s 0) (.e (dC (.int 0))))) (.e (dFz (fLst (aCons (.e (dC (.str "add"))) (aCons (.e (dC (.str "sub"))) (aCons (.e (dC (.str "mul"))) aNil)))))))) (sRet (fD (dC (.bool true)))) sNext)
    (sSeq (sAsg 1 (fD (dAnd (dIsi "int" (.e (dBin bIx (.s 0) (.e (dC (.int 2)))))) (dNot (dIsi "bool" (.e (dBin bIx (.s 0) (.e (dC (.int 2))))))))))
    (sRet (fD (dAnd (dBin cEq (.e (dBin bIx (.s 0) (.e (dC (.int 0))))) (.e (dC (.str "pow")))) (dAnd (dVar 1) (dChain (fun i j => decide (i ≤ j)) (fun i j => decide (i ≤ j)) (.e (dC (.int 0))) (.e (dBin bIx (.s 0) (.e (dC (.int 2))))) (.e (dC (.int 16))))))))))))
theorem sp_lispart : ∀ args Q, S_lispart.sp args Q → ir_law_is_part_88ea S_isleafP (endsOf args Q) (rho0 N_law_is_part_88ea args) := by
  rintro args Q ⟨v, rfl, ok, q⟩
  cases v with
  | int i =>
    refine ⟨rfl, .int i, rfl, rfl, fun h => ?_, fun h => ⟨rfl, fun _ => ⟨fun _ => ?_, nofun⟩, nofun⟩⟩
    · have h : (VT.int i).good1 = true := h
      rw [h] at q
      exact q
    · have h : (VT.int i).good1 = false := h
      rw [h] at q
      exact q
  | x => exact ⟨rfl, .str "x", rfl, rfl, fun _ => q, fun h => absurd h (by decide +kernel)⟩
  | y => exact ⟨rfl, .str "y", rfl, rfl, fun _ => q, fun h => absurd h (by decide +kernel)⟩
  | add a b => exact ⟨rfl, (VT.add a b).pd, rfl, rfl, nofun, fun _ => ⟨rfl, nofun, fun _ => ⟨nofun, fun _ => ⟨_, rfl, rfl, nofun, fun _ => ⟨_, rfl, rfl, _, rfl, rfl, fun _ => q, nofun⟩⟩⟩⟩⟩
  | sub a b => exact ⟨rfl, (VT.sub a b).pd, rfl, rfl, nofun, fun _ => ⟨rfl, nofun, fun _ => ⟨nofun, fun _ => ⟨_, rfl, rfl, nofun, fun _ => ⟨_, rfl, rfl, _, rfl, rfl, fun _ => q, nofun⟩⟩⟩⟩⟩
  | mul a b => exact ⟨rfl, (VT.mul a b).pd, rfl, rfl, nofun, fun _ => ⟨rfl, nofun, fun _ => ⟨nofun, fun _ => ⟨_, rfl, rfl, nofun, fun _ => ⟨_, rfl, rfl, _, rfl, rfl, fun _ => q, nofun⟩⟩⟩⟩⟩
  | pow a n =>
    refine ⟨rfl, (VT.pow a n).pd, rfl, rfl, nofun, fun _ => ⟨rfl, nofun, fun _ => ⟨nofun, fun _ => ⟨_, rfl, rfl, nofun, fun _ => ⟨_, rfl, rfl, _, rfl, rfl, nofun, fun _ => ?_⟩⟩⟩⟩⟩
    have pn := plain_of ok.2
    cases n with
    | int k =>
      refine ⟨.int k, rfl, rfl, fun _ => ⟨.int k, rfl, rfl, ?_⟩, nofun⟩
      refine ⟨_, rfl, fun _ => ⟨fun _ => ⟨_, rfl, fun h0 => ?_, fun h0 => ?_⟩, nofun⟩, nofun⟩
      · have e : (VT.pow a (.int k)).good1 = decide (k ≤ 16) := by
          show (decide (0 ≤ k) && decide (k ≤ 16)) = _
          rw [show decide ((0 : Int) ≤ k) = true from h0, Bool.true_and]
        rw [e] at q
        exact q
      · have e : (VT.pow a (.int k)).good1 = false := by
          show (decide (0 ≤ k) && decide (k ≤ 16)) = _
          rw [show decide ((0 : Int) ≤ k) = false from h0, Bool.false_and]
        rw [e] at q
        exact q
    | bool b => exact ⟨.bool b, rfl, rfl, fun _ => ⟨.bool b, rfl, rfl, ⟨_, rfl, fun _ => ⟨nofun, fun _ => q⟩, nofun⟩⟩, nofun⟩
    | none => exact ⟨.none, rfl, rfl, nofun, fun _ => ⟨_, rfl, fun _ => ⟨nofun, fun _ => q⟩, nofun⟩⟩
    | str s => exact ⟨.str s, rfl, rfl, nofun, fun _ => ⟨_, rfl, fun _ => ⟨nofun, fun _ => q⟩, nofun⟩⟩
    | list xs => exact ⟨.list xs, rfl, rfl, nofun, fun _ => ⟨_, rfl, fun _ => ⟨nofun, fun _ => q⟩, nofun⟩⟩
    | tuple xs => exact ⟨.tuple xs, rfl, rfl, nofun, fun _ => ⟨_, rfl, fun _ => ⟨nofun, fun _ => q⟩, nofun⟩⟩
    | dict es => cases pn
  | bad v =>
    obtain ⟨hb, nd⟩ := ok
    have q : Q (.d (.bool false)) [] := q
    cases v with
    | int i => cases hb
    | none => exact ⟨rfl, .none, rfl, rfl, nofun, fun _ => ⟨rfl, fun _ => ⟨fun _ => q, nofun⟩, nofun⟩⟩
    | bool b => exact ⟨rfl, .bool b, rfl, rfl, nofun, fun _ => ⟨rfl, fun _ => ⟨fun _ => q, nofun⟩, nofun⟩⟩
    | str s =>
      refine ⟨rfl, .str s, rfl, rfl, fun h => ?_, fun _ => ⟨rfl, fun _ => ⟨fun _ => q, nofun⟩, nofun⟩⟩
      have h : ([PyData.str "x", .str "y"].any fun z => PyData.eqv z (.str s)) = true := h
      have hb : (!([PyData.str "x", .str "y"].any fun z => PyData.eqv z (.str s))) = true := hb
      rw [h] at hb
      cases hb
    | list xs => exact ⟨rfl, .list xs, rfl, rfl, nofun, fun _ => ⟨rfl, fun _ => ⟨fun _ => q, nofun⟩, nofun⟩⟩
    | dict es => cases nd
    | tuple xs =>
      refine ⟨rfl, .tuple xs, rfl, rfl, nofun, fun _ => ⟨rfl, nofun, fun _ => ⟨fun _ => ⟨fun _ => q, nofun⟩, fun h => ?_⟩⟩⟩
      have h : (!decide (((xs.length : Nat) : Int) = 3)) = false := h
      have hl : xs.length = 3 := by
        rw [Bool.not_eq_false', decide_eq_true_iff] at h
        omega
      obtain ⟨a, b, c, rfl⟩ : ∃ a b c, xs = [a, b, c] := by
        match xs, hl with
        | [a, b, c], _ => exact ⟨a, b, c, rfl⟩
      obtain ⟨na, nb2, nc⟩ := noDict3 nd
      have pc := plain_of nc
      refine ⟨a, rfl, plain_of na, ?_⟩
      cases a with
      | str w =>
        have hb : (!([PyData.str "add", .str "sub", .str "mul"].any fun z => PyData.eqv z (.str w)) && !decide (w = "pow")) = true := hb
        rw [Bool.and_eq_true, Bool.not_eq_true', Bool.not_eq_true'] at hb
        refine ⟨nofun, fun _ => ⟨_, rfl, rfl, _, rfl, rfl, fun h => ?_, fun _ => ⟨c, rfl, pc, ?_⟩⟩⟩
        · have h : ([PyData.str "add", .str "sub", .str "mul"].any fun z => PyData.eqv z (.str w)) = true := h
          rw [hb.1] at h
          cases h
        · have no : decide (w = "pow") = true → False := fun h => by rw [hb.2] at h; cases h
          refine ⟨fun _ => ⟨c, rfl, pc, ⟨_, rfl, fun h => (no h).elim, fun _ => q⟩⟩, fun _ => ⟨_, rfl, fun h => (no h).elim, fun _ => q⟩⟩
      | none => exact ⟨fun _ => q, nofun⟩
      | bool _ => exact ⟨fun _ => q, nofun⟩
      | int _ => exact ⟨fun _ => q, nofun⟩
      | list _ => exact ⟨fun _ => q, nofun⟩
      | tuple _ => exact ⟨fun _ => q, nofun⟩
      | dict _ => cases na
def rowsV : Nat → VT → List (VT × Nat)
  | d, .add a b => (.add a b, d) :: (rowsV (d + 1) a ++ rowsV (d + 1) b)
  | d, .sub a b => (.sub a b, d) :: (rowsV (d + 1) a ++ rowsV (d + 1) b)
  | d, .mul a b => (.mul a b, d) :: (rowsV (d + 1) a ++ rowsV (d + 1) b)
  | d, .pow a n => (.pow a n, d) :: rowsV (d + 1) a
  | d, .int i => [(.int i, d)]
  | d, .x => [(.x, d)]
  | d, .y => [(.y, d)]
  | d, .bad v => [(.bad v, d)]
theorem rowsV_kids (d : Nat) (v : VT) : rowsV d v = (v, d) :: v.kids.flatMap (rowsV (d + 1)) := by
  cases v <;> simp [rowsV, VT.kids]
theorem rowsV_len : ∀ (v : VT) (d : Nat), (rowsV d v).length = v.size
  | .add a b, d => by simp only [rowsV, VT.size, List.length_cons, List.length_append, rowsV_len a, rowsV_len b]
  | .sub a b, d => by simp only [rowsV, VT.size, List.length_cons, List.length_append, rowsV_len a, rowsV_len b]
  | .mul a b, d => by simp only [rowsV, VT.size, List.length_cons, List.length_append, rowsV_len a, rowsV_len b]
  | .pow a n, d => by simp only [rowsV, VT.size, List.length_cons, rowsV_len a]
  | .int i, d => rfl
  | .x, d => rfl
  | .y, d => rfl
  | .bad v, d => rfl
def rowPV (p : VT × Nat) : PD := .list [p.1.pd, .int (p.2 : Nat)]
def stkV (L : List (VT × Nat)) : List (VT × Nat) := L.reverse.flatMap fun p => rowsV p.2 p.1
theorem stkV_len : ∀ L : List (VT × Nat), L.length ≤ (stkV L).length := fun L => by
  unfold stkV
  rw [← List.length_reverse]
  generalize L.reverse = M
  induction M with
  | nil => exact Nat.le_refl _
  | cons p r ih =>
    rw [List.flatMap_cons, List.length_append, List.length_cons, rowsV_len]
    have : 0 < p.1.size := by cases p.1 <;> simp only [VT.size] <;> omega
    omega
def S_lparts : FSpec := ⟨fun args Q => ∃ v : VT, args = [.d v.pd] ∧ v.fine ∧ v.size ≤ 100000 ∧ Q (.d (.list ((rowsV 1 v).map rowPV))) []⟩
abbrev N_law_parts_a0f1 : List Str := ["value", "found", "left", "one", "deep"]
def ir_law_parts_a0f1 : TSt :=
  (sSeq (sPar 1 2 (fLst aNil) (fLst (aCons (.e (dFz (fLst (aCons (.e (dVar 0)) (aCons (.e (dC (.int 1))) aNil))))) aNil)))
    (sSeq (sWhile (tVal (dBin cNe (.s 2) (.e (dFz (fLst aNil))))) (sSeq (sUnl [3, 4] (dPop 2))
    (sSeq (sApp 1 (dFz (fLst (aCons (.e (dVar 3)) (aCons (.e (dVar 4)) aNil)))))
    (sIf (tAndD (tVal (dIsi "tuple" (.s 3))) (tAndD (tVal (dBin cEq (.e (dBi bLen (aCons (.s 3) aNil))) (.e (dC (.int 3))))) (tVal (dIsi "str" (.e (dBin bIx (.s 3) (.e (dC (.int 0))))))))) (sIf (tVal (dBin (cIn false) (.e (dBin bIx (.s 3) (.e (dC (.int 0))))) (.e (dFz (fLst (aCons (.e (dC (.str "add"))) (aCons (.e (dC (.str "sub"))) (aCons (.e (dC (.str "mul"))) aNil)))))))) (sExt 2 (.e (dFz (fLst (aCons (.e (dFz (fLst (aCons (.e (dBin bIx (.s 3) (.e (dC (.int 2))))) (aCons (.e (dBin bAdd (.s 4) (.e (dC (.int 1))))) aNil))))) (aCons (.e (dFz (fLst (aCons (.e (dBin bIx (.s 3) (.e (dC (.int 1))))) (aCons (.e (dBin bAdd (.s 4) (.e (dC (.int 1))))) aNil))))) aNil)))))) (sIf (tVal (dBin cEq (.e (dBin bIx (.s 3) (.e (dC (.int 0))))) (.e (dC (.str "pow"))))) (sApp 2 (dFz (fLst (aCons (.e (dBin bIx (.s 3) (.e (dC (.int 1))))) (aCons (.e (dBin bAdd (.s 4) (.e (dC (.int 1))))) aNil))))) sNext)) sNext))))
    (sRetV 1)))
theorem stkV_snoc (L : List (VT × Nat)) (p : VT × Nat) : stkV (L ++ [p]) = rowsV p.2 p.1 ++ stkV L := by simp [stkV]
theorem stkV_kids (L : List (VT × Nat)) (ks : List VT) (d : Nat) : stkV (L ++ (ks.map fun k => (k, d)).reverse) = ks.flatMap (rowsV d) ++ stkV L := by
  simp [stkV, List.flatMap_map]
theorem Shp.list2 {n : Nat} {a b : PD} (h : Shp n a) (h2 : Shp n b) : Shp (n + 1) (.list [a, b]) := Shp.list fun x hx => by
  simp only [List.mem_cons, List.not_mem_nil, or_false] at hx
  rcases hx with rfl | rfl
  · exact h
  · exact h2
theorem sp_lparts : ∀ args Q, S_lparts.sp args Q → ir_law_parts_a0f1 (endsOf args Q) (rho0 N_law_parts_a0f1 args) := by
  rintro args Q ⟨v, rfl, hf, hs, q⟩
  refine ⟨fun ρ => ∃ (F L : List (VT × Nat)) (s3 s4 : Option Lc), ρ = [some (.d v.pd), some (.ls none (F.map rowPV)), some (.ls none (L.map rowPV)), s3, s4] ∧ F ++ stkV L = rowsV 1 v ∧ (∀ p ∈ L, p.1.fine), fun ρ => v.size - lenAt 1 ρ, ⟨[], [(v, 1)], none, none, rfl, by simp [stkV], fun p hp => by rw [List.mem_singleton.mp hp]; exact hf⟩, ?_⟩
  rintro ρ ⟨F, L, s3, s4, rfl, he, hL⟩
  have len : F.length + (stkV L).length = v.size := by rw [← List.length_append, he, rowsV_len]
  have sh : shp (.list (L.map rowPV)) := (Shp.list (n := 51) fun z hz => by
    obtain ⟨p, hp, rfl⟩ := List.mem_map.mp hz
    exact Shp.list2 (hL p hp).1 (.int _)).shp
  refine ⟨sh, ⟨rfl, rfl⟩, fun h => ?_, fun h => ?_⟩
  · have h : (!PyData.eqv (.list (L.map rowPV)) (.list [])) = true := h
    rw [eqv_nil, List.isEmpty_map] at h
    rcases (show L = [] ∨ ∃ L' p, L = L' ++ [p] from (List.eq_nil_or_concat L).imp id fun ⟨a, b, e⟩ => ⟨a, b, by rw [e, List.concat_eq_append]⟩) with rfl | ⟨L', ⟨u, d⟩, rfl⟩
    · cases h
    have fu : u.fine := hL (u, d) (by simp)
    have dl : ((L' ++ [(u, d)]).map rowPV).dropLast = L'.map rowPV := by simp
    have la : ((L' ++ [(u, d)]).map rowPV)[((L' ++ [(u, d)]).map rowPV).length - 1]? = some (rowPV (u, d)) := by simp
    have sl := stkV_len (L' ++ [(u, d)])
    rw [List.length_append, List.length_singleton] at sl
    have he2 : (F ++ [(u, d)]) ++ stkV (L' ++ (u.kids.map fun k => (k, d + 1)).reverse) = rowsV 1 v := by
      rw [← he, stkV_kids, stkV_snoc, rowsV_kids d u]
      simp
    have nxt : ∀ (M : List (VT × Nat)) (s3' s4' : Option Lc), M = (u.kids.map fun k => (k, d + 1)).reverse → (∃ (F' L : List (VT × Nat)) (t3 t4 : Option Lc), ([some (.d v.pd), some (.ls none (F.map rowPV ++ [rowPV (u, d)])), some (.ls none (L'.map rowPV ++ M.map rowPV)), s3', s4'] : En) = [some (.d v.pd), some (.ls none (F'.map rowPV)), some (.ls none (L.map rowPV)), t3, t4] ∧ F' ++ stkV L = rowsV 1 v ∧ (∀ p ∈ L, p.1.fine)) ∧ v.size - lenAt 1 ([some (.d v.pd), some (.ls none (F.map rowPV ++ [rowPV (u, d)])), some (.ls none (L'.map rowPV ++ M.map rowPV)), s3', s4'] : En) < v.size - lenAt 1 ([some (.d v.pd), some (.ls none (F.map rowPV)), some (.ls none ((L' ++ [(u, d)]).map rowPV)), s3, s4] : En) := fun M s3' s4' hM => by
      subst hM
      refine ⟨⟨F ++ [(u, d)], L' ++ (u.kids.map fun k => (k, d + 1)).reverse, s3', s4', by rw [List.map_append, List.map_append]; rfl, he2, fun p hp => ?_⟩, ?_⟩
      · rcases List.mem_append.mp hp with hp | hp
        · exact hL p (List.mem_append_left _ hp)
        · obtain ⟨k, hk, rfl⟩ := List.mem_map.mp (List.mem_reverse.mp hp)
          exact fu.kid hk
      · show v.size - (F.map rowPV ++ [rowPV (u, d)]).length < v.size - (F.map rowPV).length
        rw [List.length_append, List.length_map, List.length_singleton]
        omega
    have leaf : u.kids = [] → ∀ (s3' s4' : Option Lc), _ := fun e s3' s4' => nxt [] s3' s4' (by rw [e]; rfl)
    simp only [List.map_nil, List.append_nil] at leaf
    refine ⟨rowPV (u, d), la, ?_⟩
    rw [dl]
    refine ⟨rfl, ?_⟩
    refine ⟨by show (F.map rowPV).length < sizeLine; rw [List.length_map, sizeLine_eq]; omega, ?_⟩
    have room : (L'.map rowPV).length + 2 ≤ sizeLine := by rw [List.length_map, sizeLine_eq]; omega
    cases u with
    | int i => exact ⟨rfl, nofun, fun _ => ⟨nofun, fun _ => leaf rfl _ _⟩⟩
    | x => exact ⟨rfl, nofun, fun _ => ⟨nofun, fun _ => leaf rfl _ _⟩⟩
    | y => exact ⟨rfl, nofun, fun _ => ⟨nofun, fun _ => leaf rfl _ _⟩⟩
    | add a b => exact ⟨rfl, fun _ => ⟨fun _ => ⟨_, rfl, rfl, fun _ => ⟨_, rfl, rfl, _, rfl, rfl, fun _ => ⟨_, rfl, _, rfl, room, nxt [(b, d + 1), (a, d + 1)] _ _ rfl⟩, nofun⟩, nofun⟩, nofun⟩, nofun⟩
    | sub a b => exact ⟨rfl, fun _ => ⟨fun _ => ⟨_, rfl, rfl, fun _ => ⟨_, rfl, rfl, _, rfl, rfl, fun _ => ⟨_, rfl, _, rfl, room, nxt [(b, d + 1), (a, d + 1)] _ _ rfl⟩, nofun⟩, nofun⟩, nofun⟩, nofun⟩
    | mul a b => exact ⟨rfl, fun _ => ⟨fun _ => ⟨_, rfl, rfl, fun _ => ⟨_, rfl, rfl, _, rfl, rfl, fun _ => ⟨_, rfl, _, rfl, room, nxt [(b, d + 1), (a, d + 1)] _ _ rfl⟩, nofun⟩, nofun⟩, nofun⟩, nofun⟩
    | pow a n => exact ⟨rfl, fun _ => ⟨fun _ => ⟨_, rfl, rfl, fun _ => ⟨_, rfl, rfl, _, rfl, rfl, nofun, fun _ => ⟨_, rfl, fun _ => ⟨_, rfl, by omega, nxt [(a, d + 1)] _ _ rfl⟩, nofun⟩⟩, nofun⟩, nofun⟩, nofun⟩
    | bad w =>
      obtain ⟨hb, nd⟩ := fu.2
      cases w with
      | int i => cases hb
      | none => exact ⟨rfl, nofun, fun _ => ⟨nofun, fun _ => leaf rfl _ _⟩⟩
      | bool b => exact ⟨rfl, nofun, fun _ => ⟨nofun, fun _ => leaf rfl _ _⟩⟩
      | str s => exact ⟨rfl, nofun, fun _ => ⟨nofun, fun _ => leaf rfl _ _⟩⟩
      | list xs => exact ⟨rfl, nofun, fun _ => ⟨nofun, fun _ => leaf rfl _ _⟩⟩
      | dict es => cases nd
      | tuple xs =>
        refine ⟨rfl, fun _ => ⟨fun h => ?_, fun _ => ⟨nofun, fun _ => leaf rfl _ _⟩⟩, nofun⟩
        have h : decide (((xs.length : Nat) : Int) = 3) = true := h
        have hl : xs.length = 3 := by
          rw [decide_eq_true_iff] at h
          omega
        obtain ⟨a, b, c, rfl⟩ : ∃ a b c, xs = [a, b, c] := by
          match xs, hl with
          | [a, b, c], _ => exact ⟨a, b, c, rfl⟩
        obtain ⟨na, nb2, nc⟩ := noDict3 nd
        refine ⟨a, rfl, plain_of na, ?_⟩
        cases a with
        | str w =>
          have hb : (!([PyData.str "add", .str "sub", .str "mul"].any fun z => PyData.eqv z (.str w)) && !decide (w = "pow")) = true := hb
          rw [Bool.and_eq_true, Bool.not_eq_true', Bool.not_eq_true'] at hb
          refine ⟨fun _ => ⟨_, rfl, rfl, _, rfl, rfl, fun h => ?_, fun _ => ⟨_, rfl, fun h => ?_, fun _ => leaf rfl _ _⟩⟩, nofun⟩
          · have h : ([PyData.str "add", .str "sub", .str "mul"].any fun z => PyData.eqv z (.str w)) = true := h
            rw [hb.1] at h
            cases h
          · have h : decide (w = "pow") = true := h
            rw [hb.2] at h
            cases h
        | none => exact ⟨nofun, fun _ => leaf rfl _ _⟩
        | bool _ => exact ⟨nofun, fun _ => leaf rfl _ _⟩
        | int _ => exact ⟨nofun, fun _ => leaf rfl _ _⟩
        | list _ => exact ⟨nofun, fun _ => leaf rfl _ _⟩
        | tuple _ => exact ⟨nofun, fun _ => leaf rfl _ _⟩
        | dict _ => cases na
  · have h : (!PyData.eqv (.list (L.map rowPV)) (.list [])) = false := h
    rw [eqv_nil, List.isEmpty_map] at h
    have hL0 : L = [] := by cases L <;> first | rfl | cases h
    subst hL0
    have hF : F = rowsV 1 v := by rw [← he]; simp [stkV]
    rw [hF]
    exact .inr ⟨rfl, q⟩
abbrev N_law_reach_3ce3 : List Str := ["formula", "one", "other"]
def ir_law_reach_3ce3 (S_law_reach_3ce3 : FSpec) : TSt :=
  (sSeq (sIf (tNotD (tVal (dIsi "tuple" (.s 0)))) (sRet (fD (dC (.int 1)))) sNext)
    (sSeq (sIf (tVal (dBin cEq (.e (dBin bIx (.s 0) (.e (dC (.int 0))))) (.e (dC (.str "pow"))))) (sRet (fD (dBi bMax2 (aCons (.e (dC (.int 1))) (aCons (.e (dBin bMulI (.e (dBin bIx (.s 0) (.e (dC (.int 2))))) (.e (dFz (fCall S_law_reach_3ce3 (aCons (.e (dBin bIx (.s 0) (.e (dC (.int 1))))) aNil)))))) aNil))))) sNext)
    (sSeq (sPar 1 2 (fCall S_law_reach_3ce3 (aCons (.e (dBin bIx (.s 0) (.e (dC (.int 1))))) aNil)) (fCall S_law_reach_3ce3 (aCons (.e (dBin bIx (.s 0) (.e (dC (.int 2))))) aNil)))
    (sRet (fD (dIte (tVal (dBin cEq (.e (dBin bIx (.s 0) (.e (dC (.int 0))))) (.e (dC (.str "mul"))))) (dBin bAdd (.s 1) (.s 2)) (dBi bMax2 (aCons (.s 1) (aCons (.s 2) aNil)))))))))
theorem sp_lreach (d : Nat) : ∀ args Q, (S_reachW (d + 1)).sp args Q → ir_law_reach_3ce3 (S_reachW d) (endsOf args Q) (rho0 N_law_reach_3ce3 args) := sp_reachW d
def badR (p : VT × Nat) : Bool := !p.1.good1 || decide ((16 : Int) < ((p.2 : Nat) : Int))
def farR (p : VT × Nat) : Bool := decide ((16 : Int) < ((rch p.1.ft : Nat) : Int))
theorem rows_in : ∀ (v : VT) (d : Nat) {p : VT × Nat}, p ∈ rowsV d v → (v.fine → p.1.fine) ∧ (v.wfb = true → p.1.wfb = true) ∧ p.1.lev ≤ v.lev := fun v d p hp => by
  rw [rowsV_kids] at hp
  rcases List.mem_cons.mp hp with rfl | hp
  · exact ⟨id, id, Nat.le_refl _⟩
  · obtain ⟨k, hk, hp⟩ := List.mem_flatMap.mp hp
    have kl : k.lev + 1 ≤ v.lev := by
      have := v.lev_pos
      have h := (v.lev_kids (v.lev - 1)).mp (by omega) k hk
      omega
    have ih := rows_in k (d + 1) hp
    exact ⟨fun h => ih.1 (h.kid hk), fun h => ih.2.1 (((v.wfb_kids).mp h).2 k hk), by omega⟩
termination_by v => v.lev
theorem rows_good : ∀ (v : VT) (d : Nat), ((rowsV d v).all fun p => !badR p) = true ↔ v.wfb = true ∧ d + v.lev ≤ 17 := fun v d => by
  have here : (!badR (v, d)) = true ↔ v.good1 = true ∧ d ≤ 16 := by
    unfold badR
    simp only [Bool.not_or, Bool.not_not, Bool.and_eq_true, Bool.not_eq_true', decide_eq_false_iff_not]
    exact and_congr_right fun _ => by omega
  have lp := v.lev_pos
  have lk := v.lev_kids (v.lev - 1)
  have wk := v.wfb_kids
  rw [rowsV_kids, List.all_cons, Bool.and_eq_true, here, List.all_flatMap, List.all_eq_true, wk]
  constructor
  · rintro ⟨⟨g, hd⟩, h⟩
    have all : ∀ k ∈ v.kids, k.wfb = true ∧ d + 1 + k.lev ≤ 17 := fun k hk => by
      have kl := lk.mp (by omega) k hk
      exact (rows_good k (d + 1)).mp (h k hk)
    refine ⟨⟨g, fun k hk => (all k hk).1⟩, ?_⟩
    have m : v.lev ≤ (16 - d) + 1 := (v.lev_kids (16 - d)).mpr fun k hk => by have := (all k hk).2; omega
    omega
  · rintro ⟨⟨g, hk⟩, hd⟩
    refine ⟨⟨g, by omega⟩, fun k hkm => ?_⟩
    have kl := lk.mp (by omega) k hkm
    exact (rows_good k (d + 1)).mpr ⟨hk k hkm, by omega⟩
termination_by v => v.lev
decreasing_by all_goals omega
theorem ft_kids {v : VT} (h : v.wfb = true) : v.ft.kids = v.kids.map VT.ft := by
  cases v with
  | pow a n =>
    simp only [VT.wfb, Bool.and_eq_true] at h
    cases n <;> first | rfl | cases h.1
  | _ => rfl
theorem gr_kids (f : FT) : gr f ≤ 16 ↔ rch f ≤ 16 ∧ ∀ k ∈ f.kids, gr k ≤ 16 := by
  cases f <;> simp only [gr, FT.kids, List.mem_cons, List.not_mem_nil, or_false, forall_eq_or_imp, forall_eq, false_implies, implies_true, and_true, Nat.max_le]
  all_goals first | (simp only [rch]; done) | (simp only [rch]; omega) | omega
theorem rows_reach : ∀ (v : VT) (d : Nat), v.wfb = true → (((rowsV d v).all fun p => !farR p) = true ↔ gr v.ft ≤ 16) := fun v d hw => by
  have here : (!farR (v, d)) = true ↔ rch v.ft ≤ 16 := by
    unfold farR
    simp only [Bool.not_eq_true', decide_eq_false_iff_not]
    omega
  have lp := v.lev_pos
  have lk := v.lev_kids (v.lev - 1)
  have wk := ((v.wfb_kids).mp hw).2
  rw [rowsV_kids, List.all_cons, Bool.and_eq_true, here, List.all_flatMap, List.all_eq_true, gr_kids, ft_kids hw]
  refine and_congr_right fun _ => ?_
  constructor
  · intro h k hk
    obtain ⟨u, hu, rfl⟩ := List.mem_map.mp hk
    have kl := lk.mp (by omega) u hu
    exact (rows_reach u (d + 1) (wk u hu)).mp (h u hu)
  · intro h u hu
    have kl := lk.mp (by omega) u hu
    exact (rows_reach u (d + 1) (wk u hu)).mpr (h u.ft (List.mem_map.mpr ⟨u, hu, rfl⟩))
termination_by v => v.lev
decreasing_by all_goals omega
theorem filter_nil {α : Type} {p : α → Bool} {xs : List α} : (xs.filter p).isEmpty = xs.all fun x => !p x := by
  rw [Bool.eq_iff_iff, List.isEmpty_iff, List.filter_eq_nil_iff, List.all_eq_true]
  simp only [Bool.not_eq_true', Bool.not_eq_true]
def S_due : FSpec := ⟨fun args Q => ∃ v : VT, args = [.d v.pd] ∧ v.fine ∧ v.size ≤ 100000 ∧ Q (.d (.bool (isV v))) []⟩
abbrev N_law_due_f025 : List Str := ["value", "rows", "one", "deep"]
def ir_law_due_f025 (S_law_parts_a0f1 : FSpec) (S_law_is_part_88ea : FSpec) (S_law_reach_3ce3 : FSpec) : TSt :=
  (sSeq (sAsg 1 (fCall S_law_parts_a0f1 (aCons (.e (dVar 0)) aNil)))
    (sSeq (sIf (tOrD (tVal (dBin cNe (.e (dFz (fLc (iOwn 1) [2, 3] (.ul [2, 3]) (tOrD (tNotD (tVal (dFz (fCall S_law_is_part_88ea (aCons (.e (dVar 2)) aNil))))) (tVal (dBin cGt (.s 3) (.e (dC (.int 16)))))) (dC (.int 1))))) (.e (dFz (fLst aNil))))) (tVal (dBin cGt (.e (dBi bLen (aCons (.s 1) aNil))) (.e (dC (.int 200)))))) (sRet (fD (dC (.bool false)))) sNext)
    (sRet (fD (dBin cEq (.e (dFz (fLc (iOwn 1) [2, 3] (.ul [2, 3]) (tVal (dBin cGt (.e (dFz (fCall S_law_reach_3ce3 (aCons (.e (dVar 2)) aNil)))) (.e (dC (.int 16))))) (dC (.int 1))))) (.e (dFz (fLst aNil))))))))
theorem take_filter {α : Type} {p : α → Bool} {f : α → PD} {xs : List α} {i : Nat} {x : α} (h : xs[i]? = some x) : ((xs.take (i + 1)).filter p).map f = ((xs.take i).filter p).map f ++ (if p x = true then [f x] else []) := by
  rw [List.take_add_one, h, Option.toList_some, List.filter_append, List.map_append]
  congr 1
  cases e : p x <;> simp [e]
theorem sp_due : ∀ args Q, S_due.sp args Q → ir_law_due_f025 S_lparts S_lispart (S_reachW 50) (endsOf args Q) (rho0 N_law_due_f025 args) := by
  rintro args Q ⟨v, rfl, hf, hs, q⟩
  obtain ⟨R, hR⟩ : ∃ R, R = rowsV 1 v := ⟨_, rfl⟩
  have Rl : R.length = v.size := by rw [hR, rowsV_len]
  have one : ∀ (p : VT × Nat → Bool) (n : Nat), ((R.take n).filter p).length < 16777216 := fun p n => by
    have h1 := List.length_filter_le p (R.take n)
    rw [List.length_take] at h1
    omega
  have shp1 : ∀ xs : List (VT × Nat), shp (.list (xs.map fun _ => PyData.int 1)) := fun xs => (Shp.list (n := 0) fun z hz => by
    obtain ⟨_, _, rfl⟩ := List.mem_map.mp hz
    exact .int 1).shp
  refine ⟨rfl, v, rfl, hf, hs, ?_⟩
  rw [← hR]
  refine ⟨⟨rfl, rfl⟩, fun i acc ρ => acc = ((R.take i).filter badR).map (fun _ => PyData.int 1) ∧ ρ = [some (.d v.pd), some (.d (.list (R.map rowPV))), none, none], ⟨rfl, rfl⟩, fun _ _ _ _ => trivial, ?_, ?_⟩
  · rintro i x acc ρ hx ⟨rfl, rfl⟩
    have hx : (R.map rowPV)[i]? = some x := hx
    rw [List.getElem?_map] at hx
    obtain ⟨p, hp, rfl⟩ := Option.map_eq_some_iff.mp hx
    have pm : p ∈ rowsV 1 v := by rw [← hR]; exact List.mem_of_getElem? hp
    have pf := (rows_in v 1 pm).1 hf
    have fl := take_filter (p := badR) (f := fun _ => PyData.int 1) hp
    have yes : badR p = true → ((R.take i).filter badR).map (fun _ => PyData.int 1) ++ [PyData.int 1] = ((R.take (i + 1)).filter badR).map fun _ => PyData.int 1 := fun h => by rw [fl, if_pos h]
    have no : badR p = false → ((R.take i).filter badR).map (fun _ => PyData.int 1) = ((R.take (i + 1)).filter badR).map fun _ => PyData.int 1 := fun h => by rw [fl, h, if_neg Bool.false_ne_true, List.append_nil]
    have len : (((R.take i).filter badR).map fun _ => PyData.int 1).length < sizeLine := by rw [List.length_map, sizeLine_eq]; exact one _ _
    refine ⟨rfl, rfl, p.1, rfl, pf.2, fun h => ?_, fun h => ⟨fun h2 => ?_, fun h2 => ?_⟩⟩
    · have h : p.1.good1 = false := by
        have h : (!p.1.good1) = true := h
        simpa using h
      have b : badR p = true := by unfold badR; rw [h]; rfl
      exact ⟨fun _ => ⟨len, yes b, rfl⟩, nofun⟩
    · have h : p.1.good1 = true := by
        have h : (!p.1.good1) = false := h
        simpa using h
      have b : badR p = true := by unfold badR; rw [h]; exact h2
      exact ⟨len, yes b, rfl⟩
    · have h : p.1.good1 = true := by
        have h : (!p.1.good1) = false := h
        simpa using h
      have b : badR p = false := by unfold badR; rw [h]; exact h2
      exact ⟨no b, rfl⟩
  · rintro acc ρ ⟨rfl, rfl⟩
    have el : (Wk.items (R.map rowPV)).list.length = R.length := List.length_map _
    rw [el, List.take_length]
    have e1 : PyData.eqv (.list ((R.filter badR).map fun _ => PyData.int 1)) (.list []) = R.all fun p => !badR p := by rw [eqv_nil, List.isEmpty_map, filter_nil]
    have bad_false : (R.all fun p => !badR p) = false → isV v = false := fun h => by
      unfold isV
      have n : hfV 16 [v] 0 ≠ true := fun h2 => by
        have w := (hfV_one v).mp h2
        have := (rows_good v 1).mpr ⟨w.2.1, by omega⟩
        rw [← hR, h] at this
        cases this
      rw [Bool.eq_false_iff.mpr n, Bool.false_and]
    refine ⟨shp1 _, ⟨rfl, rfl⟩, fun h => ?_, fun h => ?_⟩
    · have h : (!PyData.eqv (.list ((R.filter badR).map fun _ => PyData.int 1)) (.list [])) = true := h
      rw [e1, Bool.not_eq_true'] at h
      rw [bad_false h] at q
      exact ⟨fun _ => q, nofun⟩
    · have h : (!PyData.eqv (.list ((R.filter badR).map fun _ => PyData.int 1)) (.list [])) = false := h
      rw [e1, Bool.not_eq_false'] at h
      rw [hR] at h
      obtain ⟨w, hl⟩ := (rows_good v 1).mp h
      refine ⟨fun h2 => ?_, fun h2 => ?_⟩
      · have h2 : decide ((200 : Int) < (((R.map rowPV).length : Nat) : Int)) = true := h2
        rw [List.length_map, Rl, decide_eq_true_iff] at h2
        have e : isV v = false := by
          unfold isV
          have n : hfV 16 [v] 0 ≠ true := fun h2 => by
            have w := (hfV_one v).mp h2
            omega
          rw [Bool.eq_false_iff.mpr n, Bool.false_and]
        rw [e] at q
        exact q
      · have h2 : decide ((200 : Int) < (((R.map rowPV).length : Nat) : Int)) = false := h2
        rw [List.length_map, Rl, decide_eq_false_iff_not] at h2
        have hv : hfV 16 [v] 0 = true := (hfV_one v).mpr ⟨by omega, w, by omega⟩
        have ev : isV v = R.all fun p => !farR p := by
          rw [Bool.eq_iff_iff, hR, rows_reach v 1 w]
          unfold isV
          rw [hv, Bool.true_and, decide_eq_true_iff]
          omega
        refine ⟨⟨rfl, rfl⟩, fun i acc ρ => acc = ((R.take i).filter farR).map (fun _ => PyData.int 1) ∧ ρ = [some (.d v.pd), some (.d (.list (R.map rowPV))), none, none], ⟨rfl, rfl⟩, fun _ _ _ _ => trivial, ?_, ?_⟩
        · rintro i x acc ρ hx ⟨rfl, rfl⟩
          have hx : (R.map rowPV)[i]? = some x := hx
          rw [List.getElem?_map] at hx
          obtain ⟨p, hp, rfl⟩ := Option.map_eq_some_iff.mp hx
          have pm : p ∈ rowsV 1 v := by rw [← hR]; exact List.mem_of_getElem? hp
          have pin := rows_in v 1 pm
          have pw := pin.2.1 w
          have fw := VT.ft_wf pw
          have fll : p.1.ft.lev ≤ 16 := by rw [VT.ft_lev pw]; omega
          have fl := take_filter (p := farR) (f := fun _ => PyData.int 1) hp
          have len : (((R.take i).filter farR).map fun _ => PyData.int 1).length < sizeLine := by rw [List.length_map, sizeLine_eq]; exact one _ _
          refine ⟨rfl, rfl, p.1.ft, by rw [VT.ft_pd pw], by omega, wf_small fw fll, fun h => ?_, fun h => ?_⟩
          · have h : farR p = true := h
            rw [if_pos h] at fl
            exact ⟨len, fl.symm, rfl⟩
          · have h : farR p = false := h
            rw [h, if_neg Bool.false_ne_true, List.append_nil] at fl
            exact ⟨fl.symm, rfl⟩
        · rintro acc ρ ⟨rfl, rfl⟩
          rw [el, List.take_length]
          have e2 : PyData.eqv (.list ((R.filter farR).map fun _ => PyData.int 1)) (.list []) = R.all fun p => !farR p := by rw [eqv_nil, List.isEmpty_map, filter_nil]
          rw [ev, ← e2] at q
          exact ⟨shp1 _, ⟨rfl, rfl⟩, q⟩
/-! values put otherwise -/
structure Vk (n z : Nat) (v : PD) : Prop where
  cl : v.canLay0 = true
  sw : Shw n z v
theorem Vk.mono {n n' z z' : Nat} {v : PD} (h : Vk n z v) (h1 : n ≤ n') (h2 : z ≤ z') : Vk n' z' v := ⟨h.cl, h.sw.mono h1 h2⟩
theorem Vk.tup {n z : Nat} {xs : List PD} (h : ∀ x ∈ xs, Vk n z x) : Vk (n + 1) (3 + xs.length * (z + 2)) (.tuple xs) :=
  ⟨by rw [PyData.canLay0, canLayAll_map, List.all_eq_true]; exact fun x hx => (h x hx).cl, Shw.tup fun x hx => (h x hx).sw⟩
theorem Vk.lst {n z : Nat} {xs : List PD} (h : ∀ x ∈ xs, Vk n z x) : Vk (n + 1) (2 + xs.length * (z + 2)) (.list xs) :=
  ⟨by rw [PyData.canLay0, canLayAll_map, List.all_eq_true]; exact fun x hx => (h x hx).cl, Shw.list fun x hx => (h x hx).sw⟩
theorem Vk.t1 {n z : Nat} {a : PD} (h : Vk n z a) : Vk (n + 1) (z + 5) (.tuple [a]) := (Vk.tup (n := n) (z := z) (by simp; exact h)).mono (Nat.le_refl _) (by simp only [List.length_cons, List.length_nil]; omega)
theorem Vk.l1 {n z : Nat} {a : PD} (h : Vk n z a) : Vk (n + 1) (z + 5) (.list [a]) := (Vk.lst (n := n) (z := z) (by simp; exact h)).mono (Nat.le_refl _) (by simp only [List.length_cons, List.length_nil]; omega)
theorem Vk.t2 {n z : Nat} {a b : PD} (h : Vk n z a) (h2 : Vk n z b) : Vk (n + 1) (2 * z + 7) (.tuple [a, b]) := (Vk.tup (n := n) (z := z) (by simp; exact ⟨h, h2⟩)).mono (Nat.le_refl _) (by simp only [List.length_cons, List.length_nil]; omega)
theorem Vk.t3 {n z : Nat} {a b c : PD} (h : Vk n z a) (h2 : Vk n z b) (h3 : Vk n z c) : Vk (n + 1) (3 * z + 9) (.tuple [a, b, c]) := (Vk.tup (n := n) (z := z) (by simp; exact ⟨h, h2, h3⟩)).mono (Nat.le_refl _) (by simp only [List.length_cons, List.length_nil]; omega)
theorem Vk.l3 {n z : Nat} {a b c : PD} (h : Vk n z a) (h2 : Vk n z b) (h3 : Vk n z c) : Vk (n + 1) (3 * z + 9) (.list [a, b, c]) := (Vk.lst (n := n) (z := z) (by simp; exact ⟨h, h2, h3⟩)).mono (Nat.le_refl _) (by simp only [List.length_cons, List.length_nil]; omega)
theorem Vk.t4 {n z : Nat} {a b c d : PD} (h : Vk n z a) (h2 : Vk n z b) (h3 : Vk n z c) (h4 : Vk n z d) : Vk (n + 1) (4 * z + 11) (.tuple [a, b, c, d]) := (Vk.tup (n := n) (z := z) (by simp; exact ⟨h, h2, h3, h4⟩)).mono (Nat.le_refl _) (by simp only [List.length_cons, List.length_nil]; omega)
theorem Vk.e0 {n : Nat} : Vk (n + 1) 3 (.tuple []) := (Vk.tup (n := n) (z := 0) (xs := []) nofun).mono (Nat.le_refl _) (by decide)
theorem Vk.n0 {n : Nat} : Vk (n + 1) 3 (.list []) := (Vk.lst (n := n) (z := 0) (xs := []) nofun).mono (Nat.le_refl _) (by decide)
theorem vkN {n z : Nat} (hz : 150 ≤ z) : Vk n z .none := ⟨rfl, Shw.non.mono (Nat.le_refl _) (by omega)⟩
theorem vkB {n z : Nat} (hz : 150 ≤ z) (b : Bool) : Vk n z (.bool b) := ⟨rfl, (Shw.bl b).mono (Nat.le_refl _) (by omega)⟩
theorem vkI {n z : Nat} (hz : 150 ≤ z) {i : Int} (h : i.natAbs < 2 ^ 140) : Vk n z (.int i) := ⟨rfl, (Shw.int h).mono (Nat.le_refl _) (by omega)⟩
theorem vkS {n z : Nat} (hz : 150 ≤ z) {s : Str} (h : PyData.canLay0 (.str s) = true) (h2 : (reprText s).length ≤ 10) : Vk n z (.str s) := ⟨h, (Shw.str h2).mono (Nat.le_refl _) (by omega)⟩
def S_odd : FSpec := ⟨fun args Q => ∃ (b : Nat) (dk : List PD) (v : PD) (n z : Nat), args = [.ls (some 0) dk, .d v] ∧ Dk (b + 1) dk ∧ Vk n z v ∧ ∀ v' dk', Vk (n + 3) (4 * z + 700) v' → Dk b dk' → Q (.d v') [.ls (some 0) dk']⟩
abbrev N_law_odd_879d : List Str := ["deck", "one", "some"]
def ir_law_odd_879d (S_law_one_90da : FSpec) : TSt :=
  (sSeq (sAsg 2 (fLst (aCons (.e (dC (.none))) (aCons (.e (dC (.bool true))) (aCons (.e (dC (.bool false))) (aCons (.e (dC (.str "z"))) (aCons (.e (dC (.str ""))) (aCons (.e (dC (.str "X"))) (aCons (.e (dBin bPow (.e (dC (.int 10))) (.e (dC (.int 40))))) (aCons (.e (dNeg (.e (dBin bPow (.e (dC (.int 10))) (.e (dC (.int 40))))))) (aCons (.e (dBin bSub (.e (dBin bPow (.e (dC (.int 10))) (.e (dC (.int 40))))) (.e (dC (.int 1))))) (aCons (.e (dFz (fLst aNil))) (aCons (.e (dTup aNil)) (aCons (.e (dTup (aCons (.e (dC (.str "add"))) (aCons (.e (dVar 1)) aNil)))) (aCons (.e (dTup (aCons (.e (dC (.str "pow"))) (aCons (.e (dVar 1)) (aCons (.e (dC (.int 17))) aNil))))) aNil)))))))))))))))
    (sSeq (sAsg 2 (fD (dBin bAdd (.s 2) (.e (dFz (fLst (aCons (.e (dTup (aCons (.e (dC (.str "pow"))) (aCons (.e (dVar 1)) (aCons (.e (dC (.bool true))) aNil))))) (aCons (.e (dTup (aCons (.e (dC (.str "pow"))) (aCons (.e (dVar 1)) (aCons (.e (dNeg (.e (dC (.int 1))))) aNil))))) (aCons (.e (dTup (aCons (.e (dC (.str "pow"))) (aCons (.e (dVar 1)) (aCons (.e (dC (.str "2"))) aNil))))) (aCons (.e (dFz (fLst (aCons (.e (dC (.str "add"))) (aCons (.e (dVar 1)) (aCons (.e (dVar 1)) aNil)))))) (aCons (.e (dTup (aCons (.e (dC (.str "add"))) (aCons (.e (dVar 1)) (aCons (.e (dVar 1)) (aCons (.e (dVar 1)) aNil)))))) aNil)))))))))))
    (sSeq (sAsg 2 (fD (dBin bAdd (.s 2) (.e (dFz (fLst (aCons (.e (dTup (aCons (.e (dC (.str "mul"))) (aCons (.e (dVar 1)) (aCons (.e (dVar 1)) aNil))))) (aCons (.e (dTup (aCons (.e (dC (.str "pow"))) (aCons (.e (dVar 1)) (aCons (.e (dC (.int 2))) aNil))))) (aCons (.e (dTup (aCons (.e (dC (.str "pow"))) (aCons (.e (dVar 1)) (aCons (.e (dC (.int 0))) aNil))))) (aCons (.e (dTup (aCons (.e (dC (.str "div"))) (aCons (.e (dVar 1)) (aCons (.e (dVar 1)) aNil))))) (aCons (.e (dTup (aCons (.e (dC (.int 1))) (aCons (.e (dVar 1)) (aCons (.e (dVar 1)) aNil))))) (aCons (.e (dTup (aCons (.e (dVar 1)) aNil))) aNil))))))))))))
    (sSeq (sAsg 2 (fD (dBin bAdd (.s 2) (.e (dFz (fLst (aCons (.e (dTup (aCons (.e (dC (.str "pow"))) (aCons (.e (dC (.int 2))) (aCons (.e (dVar 1)) aNil))))) (aCons (.e (dTup (aCons (.e (dC (.str "add"))) (aCons (.e (dVar 1)) (aCons (.e (dC (.none))) aNil))))) (aCons (.e (dTup (aCons (.e (dC (.str "sub"))) (aCons (.e (dC (.str "x"))) (aCons (.e (dVar 1)) aNil))))) (aCons (.e (dTup (aCons (.e (dC (.str "add"))) (aCons (.e (dFz (fLst (aCons (.e (dVar 1)) aNil)))) (aCons (.e (dVar 1)) aNil))))) (aCons (.e (dFz (fLst (aCons (.e (dC (.str "x"))) aNil)))) aNil)))))))))))
    (sSeq (sAsg 2 (fD (dBin bAdd (.s 2) (.e (dFz (fLst (aCons (.e (dTup (aCons (.e (dFz (fLst (aCons (.e (dVar 1)) aNil)))) (aCons (.e (dVar 1)) (aCons (.e (dVar 1)) aNil))))) (aCons (.e (dTup (aCons (.e (dFz (fLst aNil))) (aCons (.e (dC (.str "x"))) (aCons (.e (dC (.int 2))) aNil))))) (aCons (.e (dTup (aCons (.e (dTup (aCons (.e (dC (.str "add"))) (aCons (.e (dFz (fLst aNil))) aNil)))) (aCons (.e (dVar 1)) (aCons (.e (dVar 1)) aNil))))) (aCons (.e (dTup (aCons (.e (dC (.none))) (aCons (.e (dVar 1)) (aCons (.e (dVar 1)) aNil))))) (aCons (.e (dTup (aCons (.e (dC (.bool true))) (aCons (.e (dVar 1)) (aCons (.e (dC (.int 2))) aNil))))) aNil)))))))))))
    (sRet (fCall S_law_one_90da (aCons (.s 0) (aCons (.e (dVar 2)) aNil)))))))))
theorem sp_odd : ∀ args Q, S_odd.sp args Q → ir_law_odd_879d S_one (endsOf args Q) (rho0 N_law_odd_879d args) := by
  rintro args Q ⟨b, dk, v, n, z0, rfl, hd, hv, q⟩
  obtain ⟨z, hz, e0, e1⟩ : ∃ z, 150 ≤ z ∧ z0 ≤ z ∧ 4 * z + 30 ≤ 4 * z0 + 700 := ⟨max z0 150, by omega, by omega, by omega⟩
  have hv : Vk n z v := hv.mono (Nat.le_refl _) e0
  have v1 : Vk (n + 1) z v := hv.mono (by omega) (Nat.le_refl _)
  refine ⟨⟨by decide, by decide⟩, ⟨by decide, by decide⟩, ⟨by decide, by decide⟩, ?_⟩
  refine ⟨by show 13 + 5 ≤ sizeLine; rw [sizeLine_eq]; omega, ?_⟩
  refine ⟨by show 18 + 6 ≤ sizeLine; rw [sizeLine_eq]; omega, ?_⟩
  refine ⟨by show 24 + 5 ≤ sizeLine; rw [sizeLine_eq]; omega, ?_⟩
  refine ⟨by show 29 + 5 ≤ sizeLine; rw [sizeLine_eq]; omega, ?_⟩
  refine ⟨rfl, b, dk, _, rfl, hd, ⟨Nat.succ_pos _, by show 34 < 2 ^ 60; decide⟩, fun x dk1 hx d1 => ?_⟩
  have up : ∀ {y : PD} {m w : Nat}, Vk m w y → m ≤ n + 3 → w ≤ 4 * z + 30 → Vk (n + 3) (4 * z0 + 700) y := fun h a c => h.mono a (by omega)
  have S : ∀ {m w : Nat} {t : Str}, 150 ≤ w → PyData.canLay0 (.str t) = true ∧ (reprText t).length ≤ 10 → Vk m w (.str t) := fun hw h => vkS hw h.1 h.2
  have sadd : PyData.canLay0 (.str "add") = true ∧ (reprText "add").length ≤ 10 := by decide +kernel
  have spow : PyData.canLay0 (.str "pow") = true ∧ (reprText "pow").length ≤ 10 := by decide +kernel
  have smul : PyData.canLay0 (.str "mul") = true ∧ (reprText "mul").length ≤ 10 := by decide +kernel
  have ssub : PyData.canLay0 (.str "sub") = true ∧ (reprText "sub").length ≤ 10 := by decide +kernel
  have sdiv : PyData.canLay0 (.str "div") = true ∧ (reprText "div").length ≤ 10 := by decide +kernel
  have sx : PyData.canLay0 (.str "x") = true ∧ (reprText "x").length ≤ 10 := by decide +kernel
  have sX : PyData.canLay0 (.str "X") = true ∧ (reprText "X").length ≤ 10 := by decide +kernel
  have sz : PyData.canLay0 (.str "z") = true ∧ (reprText "z").length ≤ 10 := by decide +kernel
  have s0 : PyData.canLay0 (.str "") = true ∧ (reprText "").length ≤ 10 := by decide +kernel
  have s2 : PyData.canLay0 (.str "2") = true ∧ (reprText "2").length ≤ 10 := by decide +kernel
  have l1v : Vk (n + 1) (z + 5) (.list [v]) := hv.l1
  have w1 : Vk (n + 1) (z + 5) v := hv.mono (by omega) (by omega)
  have z5 : 150 ≤ z + 5 := by omega
  have addn : Vk 2 100 (.tuple [.str "add", .list []]) := (Vk.t2 (n := 1) (z := 20) ⟨sadd.1, (Shw.str (n := 1) sadd.2).mono (Nat.le_refl _) (by decide)⟩ (Vk.n0.mono (Nat.le_refl _) (by decide))).mono (by decide) (by decide)
  have addn2 : Vk (n + 2) z (.tuple [.str "add", .list []]) := addn.mono (by omega) (by omega)
  have n0v : Vk (n + 1) z (.list []) := Vk.n0.mono (Nat.le_refl _) (by omega)
  have v2 : Vk (n + 2) z v := hv.mono (by omega) (Nat.le_refl _)
  have key : Vk (n + 3) (4 * z0 + 700) x := by
    have hx2 : x ∈ (((([.none, .bool true, .bool false, .str "z", .str "", .str "X", .int (10 ^ (40 : Int).toNat), .int (-(10 ^ (40 : Int).toNat)), .int (10 ^ (40 : Int).toNat - 1), .list [], .tuple [], .tuple [.str "add", v], .tuple [.str "pow", v, .int 17]] ++ [.tuple [.str "pow", v, .bool true], .tuple [.str "pow", v, .int (-1)], .tuple [.str "pow", v, .str "2"], .list [.str "add", v, v], .tuple [.str "add", v, v, v]]) ++ [.tuple [.str "mul", v, v], .tuple [.str "pow", v, .int 2], .tuple [.str "pow", v, .int 0], .tuple [.str "div", v, v], .tuple [.int 1, v, v], .tuple [v]]) ++ [.tuple [.str "pow", .int 2, v], .tuple [.str "add", v, .none], .tuple [.str "sub", .str "x", v], .tuple [.str "add", .list [v], v], .list [.str "x"]]) ++ [.tuple [.list [v], v, v], .tuple [.list [], .str "x", .int 2], .tuple [.tuple [.str "add", .list []], v, v], .tuple [.none, v, v], .tuple [.bool true, v, .int 2]] : List PD) := hx
    simp only [List.mem_append, List.mem_cons, List.not_mem_nil, or_false] at hx2
    rcases hx2 with (((h | h) | h) | h) | h
    · rcases h with rfl | rfl | rfl | rfl | rfl | rfl | rfl | rfl | rfl | rfl | rfl | rfl | rfl
      · exact up (vkN (n := 0) hz) (by omega) (by omega)
      · exact up (vkB (n := 0) hz _) (by omega) (by omega)
      · exact up (vkB (n := 0) hz _) (by omega) (by omega)
      · exact up (S (m := 0) hz sz) (by omega) (by omega)
      · exact up (S (m := 0) hz s0) (by omega) (by omega)
      · exact up (S (m := 0) hz sX) (by omega) (by omega)
      · exact up (vkI (n := 0) hz (by decide +kernel)) (by omega) (by omega)
      · exact up (vkI (n := 0) hz (by decide +kernel)) (by omega) (by omega)
      · exact up (vkI (n := 0) hz (by decide +kernel)) (by omega) (by omega)
      · exact up (Vk.n0 (n := 0)) (by omega) (by omega)
      · exact up (Vk.e0 (n := 0)) (by omega) (by omega)
      · exact up (Vk.t2 (S hz sadd) hv) (by omega) (by omega)
      · exact up (Vk.t3 (S hz spow) hv (vkI hz (by decide))) (by omega) (by omega)
    · rcases h with rfl | rfl | rfl | rfl | rfl
      · exact up (Vk.t3 (S hz spow) hv (vkB hz _)) (by omega) (by omega)
      · exact up (Vk.t3 (S hz spow) hv (vkI hz (by decide))) (by omega) (by omega)
      · exact up (Vk.t3 (S hz spow) hv (S hz s2)) (by omega) (by omega)
      · exact up (Vk.l3 (S hz sadd) hv hv) (by omega) (by omega)
      · exact up (Vk.t4 (S hz sadd) hv hv hv) (by omega) (by omega)
    · rcases h with rfl | rfl | rfl | rfl | rfl | rfl
      · exact up (Vk.t3 (S hz smul) hv hv) (by omega) (by omega)
      · exact up (Vk.t3 (S hz spow) hv (vkI hz (by decide))) (by omega) (by omega)
      · exact up (Vk.t3 (S hz spow) hv (vkI hz (by decide))) (by omega) (by omega)
      · exact up (Vk.t3 (S hz sdiv) hv hv) (by omega) (by omega)
      · exact up (Vk.t3 (vkI hz (by decide)) hv hv) (by omega) (by omega)
      · exact up hv.t1 (by omega) (by omega)
    · rcases h with rfl | rfl | rfl | rfl | rfl
      · exact up (Vk.t3 (S hz spow) (vkI hz (by decide)) hv) (by omega) (by omega)
      · exact up (Vk.t3 (S hz sadd) hv (vkN hz)) (by omega) (by omega)
      · exact up (Vk.t3 (S hz ssub) (S hz sx) hv) (by omega) (by omega)
      · exact up (Vk.t3 (S z5 sadd) l1v w1) (by omega) (by omega)
      · exact up (Vk.l1 (n := 0) (S hz sx)) (by omega) (by omega)
    · rcases h with rfl | rfl | rfl | rfl | rfl
      · exact up (Vk.t3 l1v w1 w1) (by omega) (by omega)
      · exact up (Vk.t3 n0v (S hz sx) (vkI hz (by decide))) (by omega) (by omega)
      · exact up (Vk.t3 addn2 v2 v2) (by omega) (by omega)
      · exact up (Vk.t3 (vkN hz) hv hv) (by omega) (by omega)
      · exact up (Vk.t3 (vkB hz _) hv (vkI hz (by decide))) (by omega) (by omega)
  exact q x dk1 key d1
theorem shown3_len (a b c : PD) : (PyData.shown (.tuple [a, b, c])).length = (PyData.shown a).length + (PyData.shown b).length + (PyData.shown c).length + 6 := by
  rw [← cl_len, cl_tup3]
  simp only [List.length_cons, List.length_append, List.length_nil, cl_len]
  omega
theorem depth3 (a b c : PD) : (PyData.tuple [a, b, c]).depth = max a.depth (max b.depth c.depth) + 1 := by
  simp only [PyData.depth, PyData.depthAll]
  omega
theorem Vk.of3 {n z : Nat} {a b c : PD} (h : Vk n z (.tuple [a, b, c])) : ∃ m x y w, n = m + 1 ∧ x + y + w + 6 ≤ z ∧ Vk m x a ∧ Vk m y b ∧ Vk m w c := by
  obtain ⟨c0, s⟩ := h
  have d := s.dp
  have l := s.ln
  rw [depth3] at d
  rw [shown3_len] at l
  rw [PyData.canLay0, canLayAll_map, List.all_eq_true] at c0
  have nd := s.nd
  have sh := s.sh
  rw [noDict, noDictA_map, List.all_eq_true] at nd
  rw [shw, shwA_map, List.all_eq_true] at sh
  have h1 : a ∈ [a, b, c] := .head _
  have h2 : b ∈ [a, b, c] := .tail _ (.head _)
  have h3 : c ∈ [a, b, c] := .tail _ (.tail _ (.head _))
  exact ⟨n - 1, _, _, _, by omega, l, ⟨c0 a h1, ⟨nd a h1, sh a h1, by omega, Nat.le_refl _⟩⟩, ⟨c0 b h2, ⟨nd b h2, sh b h2, by omega, Nat.le_refl _⟩⟩, ⟨c0 c h3, ⟨nd c h3, sh c h3, by omega, Nat.le_refl _⟩⟩⟩
theorem Vk.to3 {n x y w : Nat} {a b c : PD} (h1 : Vk n x a) (h2 : Vk n y b) (h3 : Vk n w c) : Vk (n + 1) (x + y + w + 6) (.tuple [a, b, c]) := by
  have all : ∀ z ∈ [a, b, c], z.canLay0 = true ∧ noDict z = true ∧ shw z = true ∧ z.depth ≤ n := by
    simp only [List.forall_mem_cons]
    exact ⟨⟨h1.cl, h1.sw.nd, h1.sw.sh, h1.sw.dp⟩, ⟨h2.cl, h2.sw.nd, h2.sw.sh, h2.sw.dp⟩, ⟨h3.cl, h3.sw.nd, h3.sw.sh, h3.sw.dp⟩, nofun⟩
  have l1 := h1.sw.ln
  have l2 := h2.sw.ln
  have l3 := h3.sw.ln
  have d1 := h1.sw.dp
  have d2 := h2.sw.dp
  have d3 := h3.sw.dp
  refine ⟨?_, ⟨?_, ?_, by rw [depth3]; omega, by rw [shown3_len]; omega⟩⟩
  · rw [PyData.canLay0, canLayAll_map, List.all_eq_true]; exact fun z hz => (all z hz).1
  · rw [noDict, noDictA_map, List.all_eq_true]; exact fun z hz => (all z hz).2.1
  · rw [shw, shwA_map, List.all_eq_true]; exact fun z hz => (all z hz).2.2.1
def S_bent (D : Nat) : FSpec := ⟨fun args Q => ∃ (b : Nat) (dk : List PD) (v : PD) (n z : Nat), args = [.ls (some 0) dk, .d v] ∧ Dk (b + 2 * D + 1) dk ∧ (n < D ∧ D ≤ 50) ∧ Vk n z v ∧ ∀ v' dk', Vk (n + 3) (4 * z + 700) v' → Dk b dk' → Q (.d v') [.ls (some 0) dk']⟩
theorem S_bent0 : ∀ args Q, ¬ (S_bent 0).sp args Q := by
  rintro args Q ⟨b, dk, v, n, z, _, _, h, _⟩
  omega
abbrev N_law_bent_017e : List Str := ["deck", "value", "at"]
def ir_law_bent_017e (S_law_draw_a51a : FSpec) (S_law_bent_017e : FSpec) (S_law_odd_879d : FSpec) : TSt :=
  (sSeq (sIf (tAndD (tVal (dIsi "tuple" (.s 1))) (tAndD (tVal (dBin cEq (.e (dBi bLen (aCons (.s 1) aNil))) (.e (dC (.int 3))))) (tVal (dBin cGt (.e (dFz (fCall S_law_draw_a51a (aCons (.s 0) (aCons (.e (dC (.int 4))) aNil))))) (.e (dC (.int 0))))))) (sSeq (sAsg 2 (fD (dBin bAdd (.e (dC (.int 1))) (.e (dFz (fCall S_law_draw_a51a (aCons (.s 0) (aCons (.e (dC (.int 2))) aNil))))))))
    (sRet (fD (dBin bAdd (.e (dBin bAddT (.e (dSl (.s 1) pNone (pSome (.s 2)))) (.e (dTup (aCons (.e (dFz (fCall S_law_bent_017e (aCons (.s 0) (aCons (.e (dBin bIx (.s 1) (.s 2))) aNil))))) aNil))))) (.e (dSl (.s 1) (pSome (.e (dBin bAdd (.s 2) (.e (dC (.int 1)))))) pNone)))))) sNext)
    (sRet (fCall S_law_odd_879d (aCons (.s 0) (aCons (.e (dVar 1)) aNil)))))
theorem sp_bent (D : Nat) : ∀ args Q, (S_bent (D + 1)).sp args Q → ir_law_bent_017e S_draw (S_bent D) S_odd (endsOf args Q) (rho0 N_law_bent_017e args) := by
  rintro args Q ⟨b, dk, v, n, z, rfl, hd, ⟨hn, hD⟩, hv, q⟩
  have odd : ∀ (c : Nat) (dk : List PD), b + 1 ≤ c → Dk c dk → S_odd.sp [.ls (some 0) dk, .d v] fun l outs => ∃ dk' v', outs = [.ls (some 0) dk'] ∧ l = .d v' ∧ Vk (n + 3) (4 * z + 700) v' ∧ Dk b dk' := fun c dk hc hd =>
    ⟨b, dk, v, n, z, rfl, hd.mono hc, hv, fun v' dk' h1 h2 => ⟨dk', v', rfl, rfl, h1, h2⟩⟩
  have pv := plain_of hv.sw.nd
  cases v with
  | dict es => cases pv
  | none => exact ⟨rfl, nofun, fun _ => ⟨nofun, fun _ => ⟨rfl, b, dk, .none, n, z, rfl, hd.mono (by omega), hv, q⟩⟩⟩
  | bool c => exact ⟨rfl, nofun, fun _ => ⟨nofun, fun _ => ⟨rfl, b, dk, .bool c, n, z, rfl, hd.mono (by omega), hv, q⟩⟩⟩
  | int i => exact ⟨rfl, nofun, fun _ => ⟨nofun, fun _ => ⟨rfl, b, dk, .int i, n, z, rfl, hd.mono (by omega), hv, q⟩⟩⟩
  | str s => exact ⟨rfl, nofun, fun _ => ⟨nofun, fun _ => ⟨rfl, b, dk, .str s, n, z, rfl, hd.mono (by omega), hv, q⟩⟩⟩
  | list xs => exact ⟨rfl, nofun, fun _ => ⟨nofun, fun _ => ⟨rfl, b, dk, .list xs, n, z, rfl, hd.mono (by omega), hv, q⟩⟩⟩
  | tuple xs =>
    refine ⟨rfl, fun _ => ⟨fun h => ?_, fun _ => ⟨nofun, fun _ => ⟨rfl, b, dk, .tuple xs, n, z, rfl, hd.mono (by omega), hv, q⟩⟩⟩, nofun⟩
    have h : decide (((xs.length : Nat) : Int) = 3) = true := h
    have hl : xs.length = 3 := by
      rw [decide_eq_true_iff] at h
      omega
    obtain ⟨a, c, d, rfl⟩ : ∃ a b c, xs = [a, b, c] := by
      match xs, hl with
      | [a, b, c], _ => exact ⟨a, b, c, rfl⟩
    obtain ⟨m, x, y, w, rfl, hz, va, vc, vd⟩ := hv.of3
    refine ⟨rfl, b + 2 * D + 2, dk, 4, rfl, hd, ⟨by decide, by decide⟩, fun r dk1 r0 r1 d1 => ⟨fun _ => ?_, fun _ => ?_⟩⟩
    · refine ⟨rfl, b + 2 * D + 1, dk1, 2, rfl, d1, ⟨by decide, by decide⟩, fun at_ dk2 t0 t1 d2 => ?_⟩
      have : at_ = 0 ∨ at_ = 1 := by omega
      rcases this with rfl | rfl
      · refine ⟨c, rfl, rfl, b, dk2, c, m, y, rfl, d2, ⟨by omega, by omega⟩, vc, fun v' dk3 hv' d3 => ?_⟩
        refine ⟨by show 1 + 1 ≤ sizeLine; rw [sizeLine_eq]; omega, nofun, by show 2 + 1 ≤ sizeLine; rw [sizeLine_eq]; omega, q _ dk3 ?_ d3⟩
        exact ((va.mono (by omega) (Nat.le_refl _)).to3 hv' (vd.mono (by omega) (Nat.le_refl _))).mono (by omega) (by omega)
      · refine ⟨d, rfl, rfl, b, dk2, d, m, w, rfl, d2, ⟨by omega, by omega⟩, vd, fun v' dk3 hv' d3 => ?_⟩
        refine ⟨by show 2 + 1 ≤ sizeLine; rw [sizeLine_eq]; omega, nofun, by show 3 + 0 ≤ sizeLine; rw [sizeLine_eq]; omega, q _ dk3 ?_ d3⟩
        exact ((va.mono (by omega) (Nat.le_refl _)).to3 (vc.mono (by omega) (Nat.le_refl _)) hv').mono (by omega) (by omega)
    · exact ⟨rfl, b, dk1, _, m + 1, z, rfl, d1.mono (by omega), hv, q⟩
/-! a value, taken to pieces -/
def toV : Nat → PD → VT
  | 0, v => .bad v
  | n + 1, v => match v with
    | .int i => .int i
    | .str s => if s = "x" then .x else if s = "y" then .y else .bad (.str s)
    | .tuple [.str w, a, b] => if w = "add" then .add (toV n a) (toV n b) else if w = "sub" then .sub (toV n a) (toV n b) else if w = "mul" then .mul (toV n a) (toV n b) else if w = "pow" then .pow (toV n a) b else .bad (.tuple [.str w, a, b])
    | v => .bad v
theorem toV_pd : ∀ (n : Nat) (v : PD), (toV n v).pd = v
  | 0, v => rfl
  | n + 1, v => by
    unfold toV
    split
    · rfl
    · split
      · rename_i s h; subst h; rfl
      · split
        · rename_i s _ h; subst h; rfl
        · rfl
    · rename_i w a b
      split
      · rename_i h; subst h; show PyData.tuple [.str "add", (toV n a).pd, (toV n b).pd] = _; rw [toV_pd n a, toV_pd n b]
      · split
        · rename_i h; subst h; show PyData.tuple [.str "sub", (toV n a).pd, (toV n b).pd] = _; rw [toV_pd n a, toV_pd n b]
        · split
          · rename_i h; subst h; show PyData.tuple [.str "mul", (toV n a).pd, (toV n b).pd] = _; rw [toV_pd n a, toV_pd n b]
          · split
            · rename_i h; subst h; show PyData.tuple [.str "pow", (toV n a).pd, b] = _; rw [toV_pd n a]
            · rfl
    · rfl
theorem eqv_str (a b : Str) : PyData.eqv (.str a) (.str b) = decide (a = b) := by
  rw [Bool.eq_iff_iff, decide_eq_true_iff]
  simp [PyData.eqv]
theorem toV_ok : ∀ (n : Nat) (v : PD), v.depth < n → noDict v = true → (toV n v).ok
  | 0, v, h, _ => by omega
  | n + 1, v, h, nd => by
    unfold toV
    split
    · trivial
    · split
      · trivial
      · split
        · trivial
        · rename_i s h1 h2
          refine ⟨?_, rfl⟩
          show (!([PyData.str "x", .str "y"].any fun z => PyData.eqv z (.str s))) = true
          simp only [List.any_cons, List.any_nil, eqv_str, Bool.or_false, Bool.not_or, Bool.and_eq_true, Bool.not_eq_true', decide_eq_false_iff_not]
          exact ⟨fun e => h1 e.symm, fun e => h2 e.symm⟩
    · rename_i w a b
      rw [depth3] at h
      obtain ⟨n1, n2, n3⟩ := noDict3 nd
      have oa := toV_ok n a (by omega) n2
      have ob := toV_ok n b (by omega) n3
      split
      · exact ⟨oa, ob⟩
      · split
        · exact ⟨oa, ob⟩
        · split
          · exact ⟨oa, ob⟩
          · split
            · exact ⟨oa, n3⟩
            · rename_i h1 h2 h3 h4
              refine ⟨?_, nd⟩
              show (!([PyData.str "add", .str "sub", .str "mul"].any fun z => PyData.eqv z (.str w)) && !decide (w = "pow")) = true
              simp only [List.any_cons, List.any_nil, eqv_str, Bool.or_false, Bool.not_or, Bool.and_eq_true, Bool.not_eq_true', decide_eq_false_iff_not]
              exact ⟨⟨fun e => h1 e.symm, fun e => h2 e.symm, fun e => h3 e.symm⟩, h4⟩
    · rename_i h1 h2 h3
      refine ⟨?_, nd⟩
      unfold badP
      split
      · exact absurd rfl (h1 _)
      · exact absurd rfl (h2 _)
      · exact absurd rfl (h3 _ _ _)
      · rfl
theorem toV_lev : ∀ (n : Nat) (v : PD), (toV n v).lev ≤ n + 1
  | 0, v => Nat.le_refl _
  | n + 1, v => by
    unfold toV
    split
    · show 1 ≤ _; omega
    · split
      · show 1 ≤ _; omega
      · split <;> (show 1 ≤ _; omega)
    · rename_i w a b
      have la := toV_lev n a
      have lb := toV_lev n b
      split
      · simp only [VT.lev]; omega
      · split
        · simp only [VT.lev]; omega
        · split
          · simp only [VT.lev]; omega
          · split
            · simp only [VT.lev]; omega
            · show 1 ≤ _; omega
    · show 1 ≤ _; omega
theorem VT.size_lev : ∀ v : VT, v.size + 1 ≤ 2 ^ v.lev
  | .int _ => by show 2 ≤ 2 ^ 1; decide
  | .x => by show 2 ≤ 2 ^ 1; decide
  | .y => by show 2 ≤ 2 ^ 1; decide
  | .bad _ => by show 2 ≤ 2 ^ 1; decide
  | .pow a n => by
    have h := size_lev a
    simp only [size, lev, Nat.pow_succ]
    omega
  | .add a b => key (size_lev a) (size_lev b)
  | .sub a b => key (size_lev a) (size_lev b)
  | .mul a b => key (size_lev a) (size_lev b)
where
  key {x y l m : Nat} (h1 : x + 1 ≤ 2 ^ l) (h2 : y + 1 ≤ 2 ^ m) : x + y + 1 + 1 ≤ 2 ^ (max l m + 1) := by
    have a : 2 ^ l ≤ 2 ^ max l m := Nat.pow_le_pow_right (by decide) (Nat.le_max_left _ _)
    have b : 2 ^ m ≤ 2 ^ max l m := Nat.pow_le_pow_right (by decide) (Nat.le_max_right _ _)
    rw [Nat.pow_succ]
    omega
theorem toV_fine {v : PD} {z : Nat} (h : Vk 14 z v) : (toV 15 v).fine ∧ (toV 15 v).size ≤ 100000 := by
  refine ⟨⟨?_, toV_ok 15 v (by have := h.sw.dp; omega) h.sw.nd⟩, ?_⟩
  · rw [toV_pd]
    exact ⟨h.cl, h.sw.nd, Nat.le_trans h.sw.dp (by decide)⟩
  · have s := (toV 15 v).size_lev
    have l := toV_lev 15 v
    have : 2 ^ (toV 15 v).lev ≤ 2 ^ 16 := Nat.pow_le_pow_right (by decide) l
    omega
theorem gr_e : ∀ f : FT, gr f ≤ f.e
  | .int _ => Nat.le_refl _
  | .x => Nat.le_refl _
  | .y => Nat.le_refl _
  | .add a b => by have := gr_e a; have := gr_e b; have := (rch_le (.add a b)).1; simp only [gr]; simp only [FT.e] at this ⊢; omega
  | .sub a b => by have := gr_e a; have := gr_e b; have := (rch_le (.sub a b)).1; simp only [gr]; simp only [FT.e] at this ⊢; omega
  | .mul a b => by have := gr_e a; have := gr_e b; have := (rch_le (.mul a b)).1; simp only [gr]; simp only [FT.e] at this ⊢; omega
  | .pow a n => by
    have := gr_e a
    have r := (rch_le (.pow a n)).1
    have e1 : a.e ≤ a.e * max 1 n := Nat.le_mul_of_pos_right _ (by omega)
    simp only [gr]
    simp only [FT.e] at r ⊢
    omega
theorem wf_wfb : ∀ {f : FT}, f.wf → f.wfb = true
  | .int i, h => by
    have h : i.natAbs < 10 ^ 40 := h
    show decide ((if i < 0 then -i else i) < 10000000000000000000000000000000000000000) = true
    rw [decide_eq_true_iff]
    split <;> omega
  | .x, _ => rfl
  | .y, _ => rfl
  | .add a b, h => by simp only [FT.wfb, wf_wfb h.1, wf_wfb h.2, Bool.and_self]
  | .sub a b, h => by simp only [FT.wfb, wf_wfb h.1, wf_wfb h.2, Bool.and_self]
  | .mul a b, h => by simp only [FT.wfb, wf_wfb h.1, wf_wfb h.2, Bool.and_self]
  | .pow a n, h => by
    have h2 : n ≤ 16 := h.2
    simp only [FT.wfb, wf_wfb h.1, Bool.and_true]
    exact decide_eq_true (by omega)
theorem vt_ft (f : FT) (h : f.wf) : f.vt.ft = f := by
  induction f with
  | int i => rfl
  | x => rfl
  | y => rfl
  | add a b ia ib => simp only [FT.vt, VT.ft, ia h.1, ib h.2]
  | sub a b ia ib => simp only [FT.vt, VT.ft, ia h.1, ib h.2]
  | mul a b ia ib => simp only [FT.vt, VT.ft, ia h.1, ib h.2]
  | pow a n ia => simp only [FT.vt, VT.ft, ia h.1, Int.toNat_natCast]
theorem isV_drawn {f : FT} (h : f.wf) (hl : f.lev ≤ 5) (he : f.e ≤ 16) : isV f.vt = true := by
  unfold isV
  rw [vt_ft f h]
  have g := gr_e f
  have s := f.vt.size_lev
  have w : f.vt.wfb = true := by rw [f.vt_wfb]; exact wf_wfb h
  have hv : hfV 16 [f.vt] 0 = true := (hfV_one f.vt).mpr ⟨by rw [f.vt_lev]; omega, w, by
    rw [f.vt_lev] at s
    have : 2 ^ f.lev ≤ 2 ^ 5 := Nat.pow_le_pow_right (by decide) hl
    omega⟩
  rw [hv, Bool.true_and, decide_eq_true_iff]
  omega
abbrev N_law : List Str := ["script", "deck", "turn", "value", "bend", "kept"]
def ir_law (S_law_deck_91e6 : FSpec) (S_law_formula_6b2b : FSpec) (S_law_draw_a51a : FSpec) (S_reach : FSpec) (S_law_reach_3ce3 : FSpec) (S_is_formula : FSpec) (S_is_lone : FSpec) (S_law_one_90da : FSpec) (S_law_bent_017e : FSpec) (S_law_due_f025 : FSpec) : TSt :=
  (sSeq (sAsg 1 (fCall S_law_deck_91e6 (aCons (.s 0) aNil)))
    (sSeq (sFor (iRg (aCons (.e (dC (.int 8))) aNil)) (.nm 2) (sSeq (sAsg 3 (fCall S_law_formula_6b2b (aCons (.s 1) (aCons (.e (dFz (fLst (aCons (.e (dC (.str "x"))) (aCons (.e (dC (.str "y"))) aNil))))) (aCons (.e (dC (.int 16))) (aCons (.e (dBin bAdd (.e (dC (.int 1))) (.e (dFz (fCall S_law_draw_a51a (aCons (.s 1) (aCons (.e (dC (.int 5))) aNil))))))) aNil))))))
    (sSeq (sIf (tOrD (tVal (dBin cNotB (.e (dFz (fCall S_is_formula (aCons (.e (dVar 3)) aNil)))) (.e (dC (.bool true))))) (tVal (dBin cNe (.e (dBi bRepr (aCons (.e (dFz (fCall S_reach (aCons (.e (dVar 3)) aNil)))) aNil))) (.e (dBi bRepr (aCons (.e (dFz (fCall S_law_reach_3ce3 (aCons (.e (dVar 3)) aNil)))) aNil)))))) (sRet (fD (dC (.bool false)))) sNext)
    (sSeq (sIf (tVal (dBin cNe (.e (dBi bRepr (aCons (.e (dFz (fCall S_is_lone (aCons (.e (dVar 3)) aNil)))) aNil))) (.e (dBi bRepr (aCons (.e (dBin (cInS true) (.e (dC (.str "'y'"))) (.e (dBi bRepr (aCons (.s 3) aNil))))) aNil))))) (sRet (fD (dC (.bool false)))) sNext)
    (sSeq (sFor (iRg (aCons (.e (dFz (fCall S_law_one_90da (aCons (.s 1) (aCons (.e (dFz (fLst (aCons (.e (dC (.int 1))) (aCons (.e (dC (.int 2))) (aCons (.e (dC (.int 3))) aNil)))))) aNil))))) aNil)) (.nm 4) (sAsg 3 (fCall S_law_bent_017e (aCons (.s 1) (aCons (.e (dVar 3)) aNil)))))
    (sSeq (sAsg 5 (fD (dBi bRepr (aCons (.s 3) aNil))))
    (sIf (tOrD (tVal (dBin cNe (.e (dBi bRepr (aCons (.e (dFz (fCall S_is_formula (aCons (.e (dVar 3)) aNil)))) aNil))) (.e (dBi bRepr (aCons (.e (dFz (fCall S_law_due_f025 (aCons (.e (dVar 3)) aNil)))) aNil))))) (tVal (dBin cNe (.e (dBi bRepr (aCons (.s 3) aNil))) (.s 5)))) (sRet (fD (dC (.bool false)))) sNext)))))))
    (sRet (fD (dC (.bool true))))))
theorem sp_law : ∀ args Q, lawS.sp args Q → ir_law S_deck (S_formulaB 5) S_draw (S_reachW 50) (S_reachW 50) S_isformV (S_lone 16) S_one (S_bent 15) S_due (endsOf args Q) (rho0 N_law args) := by
  rintro args Q ⟨ns, rfl, hl, q⟩
  refine ⟨rfl, ns, rfl, hl, fun dk hdk => ?_⟩
  refine ⟨by decide, _, rfl, fun i ρ => ∃ (dk : List PD) (s2 s3 s4 s5 : Option Lc), ρ = [some (.sc (ns.map .int)), some (.ls none dk), s2, s3, s4, s5] ∧ Dk ((8 - i) * 450) dk, ⟨dk, none, none, none, none, rfl, hdk.mono (by decide)⟩, ?_, ?_⟩
  · rintro i x ρ hx ⟨dk, s2, s3, s4, s5, rfl, hd⟩
    obtain ⟨rfl, hi⟩ := rngD_get hx
    have hi : i < 8 := hi
    have eb : (8 - i) * 450 = (8 - (i + 1)) * 450 + 450 := by omega
    rw [eb] at hd
    obtain ⟨B, hB⟩ : ∃ B, B = (8 - (i + 1)) * 450 := ⟨_, rfl⟩
    rw [← hB] at hd
    refine ⟨rfl, B + 449, dk, 5, rfl, hd, ⟨by decide, by decide⟩, fun r1 dk1 a0 a1 d1 => ?_⟩
    obtain ⟨n1, rfl⟩ : ∃ n : Nat, r1 = n := ⟨r1.toNat, by omega⟩
    have e1 : (1 : Int) + (n1 : Int) = ((1 + n1 : Nat) : Int) := by omega
    refine ⟨rfl, B + 100, dk1, _, true, 16, 1 + n1, by rw [← e1]; rfl, d1.mono (by show B + 100 + 349 ≤ _; omega), lets_xy, by decide, by decide, by omega, by omega, fun f dk2 hf d2 => ?_⟩
    have fl5 : f.lev ≤ 5 := by have := hf.1; omega
    have fe : f.e ≤ 16 := hf.2.1
    have wf : f.wf := .of hf.2.2.1 fe
    have fz := f.sz_le (m := 140)
    have fw : (140 + 40) * 2 ^ f.lev ≤ (140 + 40) * 2 ^ 5 := Nat.mul_le_mul_left _ (Nat.pow_le_pow_right (by decide) fl5)
    have sf : Shw 5 7000 f.pd := (FT.shw (m := 140) (by decide) (by decide) hf.2.2.1.le (by omega)).mono fl5 (by omega)
    have kf : Vk 5 7000 f.pd := ⟨f.shpN.cl, sf⟩
    have fine : f.vt.fine := ⟨by rw [f.vt_pd]; exact f.shpN.mono (by omega), f.vt_ok⟩
    have e100 : f.e < 2 ^ 100 := Nat.lt_of_le_of_lt fe (by decide)
    have r16 := (rch_le f).1
    have sr : Shw 0 200 (.int ((rch f : Nat) : Int)) := (Shw.int (k := 20) (by rw [Int.natAbs_natCast]; omega)).mono (Nat.le_refl _) (by decide)
    refine ⟨rfl, f.vt, by rw [f.vt_pd], fine, ?_⟩
    rw [isV_drawn wf fl5 fe]
    refine ⟨fun h => absurd h (by decide), fun _ => ⟨rfl, f, rfl, by omega, e100, sr.ok, rfl, f, rfl, by omega, e100, sr.ok, fun h => nb rfl h, fun _ => ?_⟩⟩
    refine ⟨rfl, f, rfl, by omega, by decide, wf, (Shw.bl (n := 0) _).ok, sf.ok, (Shw.bl (n := 0) _).ok, fun h => nb ?_ h, fun _ => ?_⟩
    · show PyData.shown (.bool (!f.hasY)) = PyData.shown (.bool (!(!(Builtin.Str.occurrences (PyData.shown f.pd) "'y'" 0 (PyData.shown f.pd).length 1).isEmpty)))
      rw [occ_y]
    refine ⟨rfl, B + 99, dk2, _, rfl, d2, ⟨Nat.succ_pos _, by show 3 < 2 ^ 60; decide⟩, fun z dk3 hz d3 => ?_⟩
    have key : ∃ m : Nat, z = .int m ∧ m ≤ 3 := by
      simp only [List.mem_cons, List.not_mem_nil, or_false] at hz
      rcases hz with rfl | rfl | rfl
      · exact ⟨1, rfl, by decide⟩
      · exact ⟨2, rfl, by decide⟩
      · exact ⟨3, rfl, by decide⟩
    obtain ⟨m, rfl, hm⟩ := key
    refine ⟨by omega, _, rfl, fun j ρ => ∃ (dk : List PD) (v : PD) (z : Nat) (s4 : Option Lc), ρ = [some (.sc (ns.map .int)), some (.ls none dk), some (.d (.int (0 + (i : Nat)))), some (.d v), s4, s5] ∧ Vk (5 + 3 * j) z v ∧ z + 700 ≤ 8000 * 4 ^ j ∧ Dk (B + (3 - j) * 31) dk, ⟨dk3, f.pd, 7000, s4, rfl, kf, by decide, d3.mono (by omega)⟩, ?_, ?_⟩
    · rintro j y ρ hy ⟨dk, v, z, s4, rfl, hv, hz, hd⟩
      obtain ⟨rfl, hj⟩ := rngD_get hy
      have hj : j < m := by have hj : j < ((m : Nat) : Int).toNat := hj; omega
      refine ⟨rfl, B + (3 - (j + 1)) * 31, dk, v, 5 + 3 * j, z, rfl, hd.mono (by omega), ⟨by omega, by decide⟩, hv, fun v' dk4 hv' d4 => ?_⟩
      exact ⟨dk4, v', 4 * z + 700, _, rfl, hv'.mono (by omega) (Nat.le_refl _), by rw [Nat.pow_succ]; omega, d4⟩
    · rintro ρ ⟨dk4, v, z, s4, rfl, hv, hz, d4⟩
      have el : (rngD 0 ((m : Nat) : Int).toNat).length = m := rngD_len
      rw [el] at hv hz d4
      have p4 : 4 ^ m ≤ 4 ^ 3 := Nat.pow_le_pow_right (by decide) hm
      have hv : Vk 14 600000 v := hv.mono (by omega) (by omega)
      obtain ⟨fine, size⟩ := toV_fine hv
      refine ⟨hv.sw.ok, rfl, toV 15 v, by rw [toV_pd], fine, (Shw.bl (n := 0) _).ok, rfl, toV 15 v, by rw [toV_pd], fine, size, (Shw.bl (n := 0) _).ok, fun h => nb rfl h, fun _ => ⟨hv.sw.ok, fun h => nb rfl h, fun _ => ?_⟩⟩
      exact ⟨dk4, _, _, _, _, rfl, by rw [← hB]; exact d4.mono (by omega)⟩
  · rintro ρ ⟨dk, s2, s3, s4, s5, rfl, hd⟩
    exact q
end DL
namespace DL
open PySem L2 PyProof.Rows
def top (i : Nat) : Stmt := PySem.Challenge.pw_hourforms_k02_what_is_a_formula.main.body.getD i (.Pass ⟨0, 0, 0, 0⟩)
abbrev st_is_integer : Stmt := top 8
theorem sc_is_integer : FnScope N_is_integer ["value"] (defScope st_is_integer) := ⟨rfl, rfl, rfl, by decide +kernel, rfl, by decide +kernel, by decide +kernel⟩
theorem cal_is_integer {P : Program} {w : World} {K : PySem.W.Frag} {mg : Str → Option Value} {base : Heap} {k : Nat} (hnd : base.NoDigits) (D : Dn K mg "is_integer" st_is_integer ["value"]) (b_isinstance : mg "isinstance" = none) (b_bool : mg "bool" = none) (b_int : mg "int" = none) {S : FSpec}
    (len : ∀ args Q, S.sp args Q → args.length = 1) (hsp : ∀ args Q, S.sp args Q → ir_is_integer (endsOf args Q) (rho0 N_is_integer args)) : Cal P w K mg base (k + 1) "is_integer" ["value"] S := by
  have sc := sc_is_integer
  exact def_cal D sc len (fun f cdv A outer s H E hr hgd =>
    (LSs.one (LS.ret (LF.ofD (LD.and (LD.isi "int" (by simp) rfl b_isinstance rfl b_int (by decide +kernel) (LO.s 0 (pv 0))) (LD.one (LD.not (LD.isi "bool" (by simp) rfl b_isinstance rfl b_bool (by decide +kernel) (LO.s 0 (pv 0)))))))))) hsp
abbrev st_is_leaf : Stmt := top 9
theorem sc_is_leaf : FnScope N_is_leaf ["value"] (defScope st_is_leaf) := ⟨rfl, rfl, rfl, by decide +kernel, rfl, by decide +kernel, by decide +kernel⟩
theorem cal_is_leaf {P : Program} {w : World} {K : PySem.W.Frag} {mg : Str → Option Value} {base : Heap} {k : Nat} (hnd : base.NoDigits) (D : Dn K mg "is_leaf" st_is_leaf ["value"]) {S_is_integer : FSpec} (c_is_integer : Cal P w K mg base k "is_integer" ["value"] S_is_integer) (b_abs : mg "abs" = none) (b_isinstance : mg "isinstance" = none) (b_str : mg "str" = none) (g_MOST_INTEGER : Glb K mg "MOST_INTEGER" (.int 10000000000000000000000000000000000000000)) (g_LETTERS : Glb K mg "LETTERS" (.tuple [.str "x", .str "y"])) {S : FSpec}
    (len : ∀ args Q, S.sp args Q → args.length = 1) (hsp : ∀ args Q, S.sp args Q → ir_is_leaf S_is_integer (endsOf args Q) (rho0 N_is_leaf args)) : Cal P w K mg base (k + 1) "is_leaf" ["value"] S := by
  have sc := sc_is_leaf
  exact def_cal D sc len (fun f cdv A outer s H E hr hgd =>
    (LSs.cons (LS.ite (LT.val (LD.ofF (LF.cal c_is_integer hr hgd rfl (LA.cons (LO.ofD (LD.var 0 (pv 0))) LA.nil)))) (LSs.one (LS.ret (LF.ofD (LD.cmp op_lt (ok_cI _) (LO.ofD (LD.bi call_abs ok_abs rfl b_abs (by decide +kernel) (LA.cons (LO.s 0 (pv 0)) LA.nil))) (LO.ofD (LD.glb g_MOST_INTEGER rfl)) (nomark _))))) LSs.nil)
    (LSs.one (LS.ret (LF.ofD (LD.and (LD.isi "str" (by simp) rfl b_isinstance rfl b_str (by decide +kernel) (LO.s 0 (pv 0))) (LD.one (LD.cmp op_in_seq (ok_in false) (LO.s 0 (pv 0)) (LO.ofD (LD.glb g_LETTERS rfl)) rfl)))))))) hsp
abbrev st_inner : Stmt := top 10
theorem sc_inner : FnScope N_inner ["value"] (defScope st_inner) := ⟨rfl, rfl, rfl, by decide +kernel, rfl, by decide +kernel, by decide +kernel⟩
theorem cal_inner {P : Program} {w : World} {K : PySem.W.Frag} {mg : Str → Option Value} {base : Heap} {k : Nat} (hnd : base.NoDigits) (D : Dn K mg "inner" st_inner ["value"]) {S_is_leaf : FSpec} (c_is_leaf : Cal P w K mg base k "is_leaf" ["value"] S_is_leaf) {S_is_integer : FSpec} (c_is_integer : Cal P w K mg base k "is_integer" ["value"] S_is_integer) (b_isinstance : mg "isinstance" = none) (b_str : mg "str" = none) (b_len : mg "len" = none) (b_tuple : mg "tuple" = none) (g_PAIRS : Glb K mg "PAIRS" (.tuple [.str "add", .str "sub", .str "mul"])) (g_MOST_POWER : Glb K mg "MOST_POWER" (.int 16)) {S : FSpec}
    (len : ∀ args Q, S.sp args Q → args.length = 1) (hsp : ∀ args Q, S.sp args Q → ir_inner S_is_leaf S_is_integer (endsOf args Q) (rho0 N_inner args)) : Cal P w K mg base (k + 1) "inner" ["value"] S := by
  have sc := sc_inner
  exact def_cal D sc len (fun f cdv A outer s H E hr hgd =>
    (LSs.cons (LS.ite (LT.val (LD.ofF (LF.cal c_is_leaf hr hgd rfl (LA.cons (LO.ofD (LD.var 0 (pv 0))) LA.nil)))) (LSs.one (LS.ret (LF.ofD (LD.tup LA.nil)))) LSs.nil)
    (LSs.cons (LS.ite (LT.w (LW.or (LT.not (LT.val (LD.isi "tuple" (by simp) rfl b_isinstance rfl b_tuple (by decide +kernel) (LO.s 0 (pv 0))))) (LW.or (LT.cmp (op_neU hr.units) ok_ne (LO.ofD (LD.bi call_lenU ok_len rfl b_len (by decide +kernel) (LA.cons (LO.s 0 (pv 0)) LA.nil))) (LO.ofD LD.int) (nomark _)) (LW.or1 (LT.not (LT.val (LD.isi "str" (by simp) rfl b_isinstance rfl b_str (by decide +kernel) (LO.ofD (LD.ix (LO.s 0 (pv 0)) (LO.ofD LD.int) (fun _ _ => rfl)))))))))) (LSs.one (LS.ret (LF.ofD LD.non))) LSs.nil)
    (LSs.cons (LS.ite (LT.cmp op_in_seq (ok_in false) (LO.ofD (LD.ix (LO.s 0 (pv 0)) (LO.ofD LD.int) (fun _ _ => rfl))) (LO.ofD (LD.glb g_PAIRS rfl)) rfl) (LSs.one (LS.ret (LF.ofD (LD.sl (LO.s 0 (pv 0)) (LP.some (LO.ofD LD.int)) LP.none)))) LSs.nil)
    (LSs.cons (LS.ite (LT.w (LW.and (LT.cmp (op_eqU hr.units) ok_eq (LO.ofD (LD.ix (LO.s 0 (pv 0)) (LO.ofD LD.int) (fun _ _ => rfl))) (LO.ofD LD.str) (nomark _)) (LW.and (LT.val (LD.ofF (LF.cal c_is_integer hr hgd rfl (LA.cons (LO.ofD (LD.ix (LO.s 0 (pv 0)) (LO.ofD LD.int) (fun _ _ => rfl))) LA.nil)))) (LW.and1 (LT.chain op_le op_le (LO.ofD LD.int) (LO.ofD (LD.ix (LO.s 0 (pv 0)) (LO.ofD LD.int) (fun _ _ => rfl))) (LO.ofD (LD.glb g_MOST_POWER rfl))))))) (LSs.one (LS.ret (LF.ofD (LD.sl (LO.s 0 (pv 0)) (LP.some (LO.ofD LD.int)) (LP.some (LO.ofD LD.int)))))) LSs.nil)
    (LSs.one (LS.ret (LF.ofD LD.non)))))))) hsp
abbrev st_has_form : Stmt := top 11
theorem sc_has_form : FnScope N_has_form ["value"] (defScope st_has_form) := ⟨rfl, rfl, rfl, by decide +kernel, rfl, by decide +kernel, by decide +kernel⟩
theorem cal_has_form {P : Program} {w : World} {K : PySem.W.Frag} {mg : Str → Option Value} {base : Heap} {k : Nat} (hnd : base.NoDigits) (D : Dn K mg "has_form" st_has_form ["value"]) {S_inner : FSpec} (c_inner : Cal P w K mg base k "inner" ["value"] S_inner) (b_range : mg "range" = none) (g_MOST_LEVELS : Glb K mg "MOST_LEVELS" (.int 16)) (g_MOST_PARTS : Glb K mg "MOST_PARTS" (.int 200)) {S : FSpec}
    (len : ∀ args Q, S.sp args Q → args.length = 1) (hsp : ∀ args Q, S.sp args Q → ir_has_form S_inner (endsOf args Q) (rho0 N_has_form args)) : Cal P w K mg base (k + 1) "has_form" ["value"] S := by
  have sc := sc_has_form
  exact def_cal D sc len (fun f cdv A outer s H E hr hgd =>
    (LSs.cons (LS.par (i := 1) (j := 2) rfl sc.nd rfl rfl (by decide) rfl rfl (LF.lst (LA.cons (LO.ofD (LD.var 0 (pv 0))) LA.nil)) (LF.ofD LD.int) rfl)
    (LSs.cons (LS.for (pt := (.nm 3)) PassesOwn.never rfl (LI.range1 rfl b_range (LA.cons (LO.ofD (LD.glb g_MOST_LEVELS rfl)) LA.nil)) (pg_name (i := 3) sc.nd rfl (by first | exact .inl rfl | exact .inr rfl)) (LSs.cons (LS.asg (i := 4) sc.nd rfl (by first | exact .inl rfl | exact .inr rfl) (LF.lst LA.nil))
    (LSs.cons (LS.for (pt := (.nm 5)) PassesOwn.never rfl (LI.seq (LD.var 1 (pv 1))) (pg_name (i := 5) sc.nd rfl (by first | exact .inl rfl | exact .inr rfl)) (LSs.cons (LS.asg (i := 6) sc.nd rfl (by first | exact .inl rfl | exact .inr rfl) (LF.cal c_inner hr hgd rfl (LA.cons (LO.ofD (LD.var 5 (pv 5))) LA.nil)))
    (LSs.cons (LS.asg (i := 2) sc.nd rfl (by first | exact .inl rfl | exact .inr rfl) (LF.ofD (LD.bin op_addD ok_add (LO.s 2 (pv 2)) (LO.ofD LD.int))))
    (LSs.cons (LS.ite (LT.w (LW.or (LT.cmp op_isN ok_isN (LO.s 6 (pv 6)) (LO.ofD LD.non) (nomark _)) (LW.or1 (LT.cmp op_gt (ok_cI _) (LO.s 2 (pv 2)) (LO.ofD (LD.glb g_MOST_PARTS rfl)) (nomark _))))) (LSs.one (LS.ret (LF.ofD LD.bl))) LSs.nil)
    (LSs.one (LS.extT (pe_bm PySem.F.plainAttrs_list PySem.F.slot_list_extend PySem.F.type_list_extend mt_extT (pv 4) (pa_cons (pO (LO.s 6 (pv 6))) pa_nil))))))))
    (LSs.one (LS.asg (i := 1) sc.nd rfl (by first | exact .inl rfl | exact .inr rfl) (LF.ofD (LD.var 4 (pv 4))))))))
    (LSs.one (LS.ret (LF.ofD (LD.cmp (op_eqU hr.units) ok_eq (LO.s 1 (pv 1)) (LO.ofD (LD.ofF (LF.lst LA.nil))) (nomark _)))))))) hsp
abbrev st_reach : Stmt := top 12
theorem sc_reach : FnScope N_reach ["formula"] (defScope st_reach) := ⟨rfl, rfl, rfl, by decide +kernel, rfl, by decide +kernel, by decide +kernel⟩
theorem cal_reach {P : Program} {w : World} {K : PySem.W.Frag} {mg : Str → Option Value} {base : Heap} {k : Nat} (hnd : base.NoDigits) (D : Dn K mg "reach" st_reach ["formula"]) {S_reach : FSpec} (c_reach : Cal P w K mg base k "reach" ["formula"] S_reach) (b_isinstance : mg "isinstance" = none) (b_tuple : mg "tuple" = none) (b_max : mg "max" = none) {S : FSpec}
    (len : ∀ args Q, S.sp args Q → args.length = 1) (hsp : ∀ args Q, S.sp args Q → ir_reach S_reach (endsOf args Q) (rho0 N_reach args)) : Cal P w K mg base (k + 1) "reach" ["formula"] S := by
  have sc := sc_reach
  exact def_cal D sc len (fun f cdv A outer s H E hr hgd =>
    (LSs.cons (LS.ite (LT.not (LT.val (LD.isi "tuple" (by simp) rfl b_isinstance rfl b_tuple (by decide +kernel) (LO.s 0 (pv 0))))) (LSs.one (LS.ret (LF.ofD LD.int))) LSs.nil)
    (LSs.cons (LS.ite (LT.cmp (op_eqU hr.units) ok_eq (LO.ofD (LD.ix (LO.s 0 (pv 0)) (LO.ofD LD.int) (fun _ _ => rfl))) (LO.ofD LD.str) (nomark _)) (LSs.one (LS.ret (LF.ofD (LD.bi (call_max2 rfl) ok_max2 rfl b_max (by decide +kernel) (LA.cons (LO.ofD LD.int) (LA.cons (LO.ofD (LD.bin op_mulI ok_mul (LO.ofD (LD.ix (LO.s 0 (pv 0)) (LO.ofD LD.int) (fun _ _ => rfl))) (LO.ofD (LD.ofF (LF.cal c_reach hr hgd rfl (LA.cons (LO.ofD (LD.ix (LO.s 0 (pv 0)) (LO.ofD LD.int) (fun _ _ => rfl))) LA.nil)))))) LA.nil)))))) LSs.nil)
    (LSs.cons (LS.par (i := 1) (j := 2) rfl sc.nd rfl rfl (by decide) rfl rfl (LF.cal c_reach hr hgd rfl (LA.cons (LO.ofD (LD.ix (LO.s 0 (pv 0)) (LO.ofD LD.int) (fun _ _ => rfl))) LA.nil)) (LF.cal c_reach hr hgd rfl (LA.cons (LO.ofD (LD.ix (LO.s 0 (pv 0)) (LO.ofD LD.int) (fun _ _ => rfl))) LA.nil)) rfl)
    (LSs.one (LS.ret (LF.ofD (LD.ite (LT.cmp (op_eqU hr.units) ok_eq (LO.ofD (LD.ix (LO.s 0 (pv 0)) (LO.ofD LD.int) (fun _ _ => rfl))) (LO.ofD LD.str) (nomark _)) (LD.bin op_addD ok_add (LO.s 1 (pv 1)) (LO.s 2 (pv 2))) (LD.bi (call_max2 rfl) ok_max2 rfl b_max (by decide +kernel) (LA.cons (LO.s 1 (pv 1)) (LA.cons (LO.s 2 (pv 2)) LA.nil))))))))))) hsp
abbrev st_greatest_reach : Stmt := top 13
theorem sc_greatest_reach : FnScope N_greatest_reach ["formula"] (defScope st_greatest_reach) := ⟨rfl, rfl, rfl, by decide +kernel, rfl, by decide +kernel, by decide +kernel⟩
theorem cal_greatest_reach {P : Program} {w : World} {K : PySem.W.Frag} {mg : Str → Option Value} {base : Heap} {k : Nat} (hnd : base.NoDigits) (D : Dn K mg "greatest_reach" st_greatest_reach ["formula"]) {S_reach : FSpec} (c_reach : Cal P w K mg base k "reach" ["formula"] S_reach) {S_inner : FSpec} (c_inner : Cal P w K mg base k "inner" ["value"] S_inner) {S_greatest_reach : FSpec} (c_greatest_reach : Cal P w K mg base k "greatest_reach" ["formula"] S_greatest_reach) (b_max : mg "max" = none) {S : FSpec}
    (len : ∀ args Q, S.sp args Q → args.length = 1) (hsp : ∀ args Q, S.sp args Q → ir_greatest_reach S_reach S_inner S_greatest_reach (endsOf args Q) (rho0 N_greatest_reach args)) : Cal P w K mg base (k + 1) "greatest_reach" ["formula"] S := by
  have sc := sc_greatest_reach
  exact def_cal D sc len (fun f cdv A outer s H E hr hgd =>
    (LSs.one (LS.ret (LF.ofD (LD.bi (cr_max rfl) ok_max1 rfl b_max (by decide +kernel) (LA.cons (LO.ofD (LD.bin op_addD ok_add (LO.ofD (LD.ofF (LF.lst (LA.cons (LO.ofD (LD.ofF (LF.cal c_reach hr hgd rfl (LA.cons (LO.ofD (LD.var 0 (pv 0))) LA.nil)))) LA.nil)))) (LO.ofD (LD.ofF (LF.lc (pt := (.nm 1)) (vs := [1]) rfl sc.nd (LI.seq (LD.ofF (LF.cal c_inner hr hgd rfl (LA.cons (LO.ofD (LD.var 0 (pv 0))) LA.nil)))) (blk_mk (N := N_greatest_reach) (own := [("one", 1)]) [] (by decide +kernel) trivial) rfl (by decide) (fun _ _ _ _ _ => (pg_name (i := 1) sc.nd rfl (by first | exact .inl rfl | exact .inr rfl))) (fun _ _ _ _ _ => LT.yes) (fun _ _ _ _ _ => (LD.ofF (LF.cal c_greatest_reach hr hgd rfl (LA.cons (LO.ofD (LD.var 1 (pv 1))) LA.nil))))))))) LA.nil)))))) hsp
abbrev st_is_formula : Stmt := top 14
theorem sc_is_formula : FnScope N_is_formula ["value"] (defScope st_is_formula) := ⟨rfl, rfl, rfl, by decide +kernel, rfl, by decide +kernel, by decide +kernel⟩
theorem cal_is_formula {P : Program} {w : World} {K : PySem.W.Frag} {mg : Str → Option Value} {base : Heap} {k : Nat} (hnd : base.NoDigits) (D : Dn K mg "is_formula" st_is_formula ["value"]) {S_greatest_reach : FSpec} (c_greatest_reach : Cal P w K mg base k "greatest_reach" ["formula"] S_greatest_reach) {S_has_form : FSpec} (c_has_form : Cal P w K mg base k "has_form" ["value"] S_has_form) (g_MOST_REACH : Glb K mg "MOST_REACH" (.int 16)) {S : FSpec}
    (len : ∀ args Q, S.sp args Q → args.length = 1) (hsp : ∀ args Q, S.sp args Q → ir_is_formula S_greatest_reach S_has_form (endsOf args Q) (rho0 N_is_formula args)) : Cal P w K mg base (k + 1) "is_formula" ["value"] S := by
  have sc := sc_is_formula
  exact def_cal D sc len (fun f cdv A outer s H E hr hgd =>
    (LSs.one (LS.ret (LF.ofD (LD.and (LD.ofF (LF.cal c_has_form hr hgd rfl (LA.cons (LO.ofD (LD.var 0 (pv 0))) LA.nil))) (LD.one (LD.cmp op_le (ok_cI _) (LO.ofD (LD.ofF (LF.cal c_greatest_reach hr hgd rfl (LA.cons (LO.ofD (LD.var 0 (pv 0))) LA.nil)))) (LO.ofD (LD.glb g_MOST_REACH rfl)) (nomark _)))))))) hsp
abbrev st_is_lone : Stmt := top 15
theorem sc_is_lone : FnScope N_is_lone ["formula"] (defScope st_is_lone) := ⟨rfl, rfl, rfl, by decide +kernel, rfl, by decide +kernel, by decide +kernel⟩
theorem cal_is_lone {P : Program} {w : World} {K : PySem.W.Frag} {mg : Str → Option Value} {base : Heap} {k : Nat} (hnd : base.NoDigits) (D : Dn K mg "is_lone" st_is_lone ["formula"]) {S_inner : FSpec} (c_inner : Cal P w K mg base k "inner" ["value"] S_inner) {S_is_lone : FSpec} (c_is_lone : Cal P w K mg base k "is_lone" ["formula"] S_is_lone) (b_all : mg "all" = none) {S : FSpec}
    (len : ∀ args Q, S.sp args Q → args.length = 1) (hsp : ∀ args Q, S.sp args Q → ir_is_lone S_inner S_is_lone (endsOf args Q) (rho0 N_is_lone args)) : Cal P w K mg base (k + 1) "is_lone" ["formula"] S := by
  have sc := sc_is_lone
  exact def_cal D sc len (fun f cdv A outer s H E hr hgd =>
    (LSs.one (LS.ret (LF.ofD (LD.and (LD.cmp (op_neU hr.units) ok_ne (LO.s 0 (pv 0)) (LO.ofD LD.str) (nomark _)) (LD.one (LD.bi (cr_all rfl) ok_all rfl b_all (by decide +kernel) (LA.cons (LO.ofD (LD.ofF (LF.lc (pt := (.nm 1)) (vs := [1]) rfl sc.nd (LI.seq (LD.ofF (LF.cal c_inner hr hgd rfl (LA.cons (LO.ofD (LD.var 0 (pv 0))) LA.nil)))) (blk_mk (N := N_is_lone) (own := [("one", 1)]) [] (by decide +kernel) trivial) rfl (by decide) (fun _ _ _ _ _ => (pg_name (i := 1) sc.nd rfl (by first | exact .inl rfl | exact .inr rfl))) (fun _ _ _ _ _ => LT.yes) (fun _ _ _ _ _ => (LD.ofF (LF.cal c_is_lone hr hgd rfl (LA.cons (LO.ofD (LD.var 1 (pv 1))) LA.nil))))))) LA.nil)))))))) hsp
abbrev st_law_deck_91e6 : Stmt := top 17
theorem sc_law_deck_91e6 : FnScope N_law_deck_91e6 ["script"] (defScope st_law_deck_91e6) := ⟨rfl, rfl, rfl, by decide +kernel, rfl, by decide +kernel, by decide +kernel⟩
theorem cal_law_deck_91e6 {P : Program} {w : World} {K : PySem.W.Frag} {mg : Str → Option Value} {base : Heap} {k : Nat} (hnd : base.NoDigits) (D : Dn K mg "_law_deck" st_law_deck_91e6 ["script"]) (b_list : mg "list" = none) {S : FSpec}
    (len : ∀ args Q, S.sp args Q → args.length = 1) (hsp : ∀ args Q, S.sp args Q → ir_law_deck_91e6 (endsOf args Q) (rho0 N_law_deck_91e6 args)) : Cal P w K mg base (k + 1) "_law_deck" ["script"] S := by
  have sc := sc_law_deck_91e6
  exact def_cal D sc len (fun f cdv A outer s H E hr hgd =>
    (LSs.one (LS.ret (LF.lst (LA.cons (LO.ofD (LD.ofF (LF.list rfl b_list (LA.cons (LO.ofD (LD.slS 0 (pv 0) LP.none (LP.some (LO.ofD LD.int)))) LA.nil)))) (LA.cons (LO.ofD LD.int) (LA.cons (LO.ofD LD.int) (LA.cons (LO.ofD LD.int) LA.nil)))))))) hsp
abbrev st_law_draw_a51a : Stmt := top 18
theorem sc_law_draw_a51a : FnScope N_law_draw_a51a ["deck", "many"] (defScope st_law_draw_a51a) := ⟨rfl, rfl, rfl, by decide +kernel, rfl, by decide +kernel, by decide +kernel⟩
theorem cal_law_draw_a51a {P : Program} {w : World} {K : PySem.W.Frag} {mg : Str → Option Value} {base : Heap} {k : Nat} (hnd : base.NoDigits) (D : Dn K mg "_law_draw" st_law_draw_a51a ["deck", "many"]) (b_int : mg "int" = none) (b_len : mg "len" = none) (b_abs : mg "abs" = none) {S : FSpec}
    (len : ∀ args Q, S.sp args Q → args.length = 2) (hsp : ∀ args Q, S.sp args Q → ir_law_draw_a51a (endsOf args Q) (rho0 N_law_draw_a51a args)) : Cal P w K mg base (k + 1) "_law_draw" ["deck", "many"] S := by
  have sc := sc_law_draw_a51a
  exact def_cal D sc len (fun f cdv A outer s H E hr hgd =>
    (LSs.cons (LS.setL (LD.bin op_addD ok_add (LO.ofD (LD.ix (LO.s 0 (pv 0)) (LO.ofD LD.int) (fun _ _ => rfl))) (LO.ofD LD.int)) (pg_sub (pv 0) (pO (LO.ofD LD.int)) set_list))
    (LSs.cons (LS.ite (LT.cmp op_gt (ok_cI _) (LO.ofD (LD.ix (LO.s 0 (pv 0)) (LO.ofD LD.int) (fun _ _ => rfl))) (LO.ofD LD.int) (nomark _)) (LSs.cons (LS.asg (i := 2) sc.nd rfl (by first | exact .inl rfl | exact .inr rfl) (LF.ofD (LD.bin op_mod ok_mod (LO.ofD (LD.bt call_int1 ok_int rfl b_int (by decide +kernel) (LA.cons (LO.ofD (LD.ix (LO.s 0 (pv 0)) (LO.ofD LD.int) (fun _ _ => rfl))) LA.nil))) (LO.s 1 (pv 1)))))
    (LSs.cons (LS.setL (LD.bin op_fdivW ok_fdiv (LO.ofD (LD.ix (LO.s 0 (pv 0)) (LO.ofD LD.int) (fun _ _ => rfl))) (LO.s 1 (pv 1))) (pg_sub (pv 0) (pO (LO.ofD LD.int)) set_list))
    (LSs.one (LS.retV 2 (pv 2))))) LSs.nil)
    (LSs.cons (LS.asg (i := 3) sc.nd rfl (by first | exact .inl rfl | exact .inr rfl) (LF.ofD LD.int))
    (LSs.cons (LS.ite (LT.cmp (op_neU hr.units) ok_ne (LO.ofD (LD.ix (LO.s 0 (pv 0)) (LO.ofD LD.int) (fun _ _ => rfl))) (LO.ofD (LD.ofF (LF.lst LA.nil))) (nomark _)) (LSs.one (LS.asg (i := 3) sc.nd rfl (by first | exact .inl rfl | exact .inr rfl) (LF.ofD (LD.ix (LO.ofD (LD.ix (LO.s 0 (pv 0)) (LO.ofD LD.int) (fun _ _ => rfl))) (LO.ofD (LD.bin op_mod ok_mod (LO.ofD (LD.bt call_int1 ok_int rfl b_int (by decide +kernel) (LA.cons (LO.ofD (LD.ix (LO.s 0 (pv 0)) (LO.ofD LD.int) (fun _ _ => rfl))) LA.nil))) (LO.ofD (LD.bi call_lenU ok_len rfl b_len (by decide +kernel) (LA.cons (LO.ofD (LD.ix (LO.s 0 (pv 0)) (LO.ofD LD.int) (fun _ _ => rfl))) LA.nil))))) (fun _ _ => rfl))))) LSs.nil)
    (LSs.cons (LS.setL (LD.bin op_addD ok_add (LO.ofD (LD.ix (LO.s 0 (pv 0)) (LO.ofD LD.int) (fun _ _ => rfl))) (LO.ofD LD.int)) (pg_sub (pv 0) (pO (LO.ofD LD.int)) set_list))
    (LSs.cons (LS.ite (LT.w (LW.and (LT.cmp op_ge (ok_cI _) (LO.ofD (LD.bi call_abs ok_abs rfl b_abs (by decide +kernel) (LA.cons (LO.s 3 (pv 3)) LA.nil))) (LO.ofD (LD.bin op_powW ok_pow (LO.ofD LD.int) (LO.ofD LD.int))) (nomark _)) (LW.and1 (LT.cmp op_le (ok_cI _) (LO.ofD (LD.ix (LO.s 0 (pv 0)) (LO.ofD LD.int) (fun _ _ => rfl))) (LO.ofD (LD.bi call_lenU ok_len rfl b_len (by decide +kernel) (LA.cons (LO.ofD (LD.ix (LO.s 0 (pv 0)) (LO.ofD LD.int) (fun _ _ => rfl))) LA.nil))) (nomark _))))) (LSs.cons (LS.setL (LD.bin op_fdivW ok_fdiv (LO.ofD (LD.bi call_abs ok_abs rfl b_abs (by decide +kernel) (LA.cons (LO.s 3 (pv 3)) LA.nil))) (LO.s 1 (pv 1))) (pg_sub (pv 0) (pO (LO.ofD LD.int)) set_list))
    (LSs.one (LS.ret (LF.ofD (LD.bin op_mod ok_mod (LO.ofD (LD.bt call_int1 ok_int rfl b_int (by decide +kernel) (LA.cons (LO.ofD (LD.bi call_abs ok_abs rfl b_abs (by decide +kernel) (LA.cons (LO.s 3 (pv 3)) LA.nil))) LA.nil))) (LO.s 1 (pv 1))))))) LSs.nil)
    (LSs.cons (LS.asg (i := 4) sc.nd rfl (by first | exact .inl rfl | exact .inr rfl) (LF.ofD (LD.bin op_mod ok_mod (LO.ofD (LD.bin op_powW ok_pow (LO.ofD (LD.bt call_int1 ok_int rfl b_int (by decide +kernel) (LA.cons (LO.ofD (LD.bin op_addD ok_add (LO.ofD (LD.bin op_mod ok_mod (LO.ofD (LD.bt call_int1 ok_int rfl b_int (by decide +kernel) (LA.cons (LO.s 3 (pv 3)) LA.nil))) (LO.ofD LD.int))) (LO.ofD (LD.bin op_mulI ok_mul (LO.ofD LD.int) (LO.ofD (LD.ix (LO.s 0 (pv 0)) (LO.ofD LD.int) (fun _ _ => rfl))))))) LA.nil))) (LO.ofD LD.int))) (LO.ofD LD.int))))
    (LSs.cons (LS.asg (i := 4) sc.nd rfl (by first | exact .inl rfl | exact .inr rfl) (LF.ofD (LD.bin op_mod ok_mod (LO.ofD (LD.bin op_powW ok_pow (LO.ofD (LD.bt call_int1 ok_int rfl b_int (by decide +kernel) (LA.cons (LO.ofD (LD.bin op_addD ok_add (LO.ofD (LD.bin op_mulI ok_mul (LO.s 4 (pv 4)) (LO.ofD (LD.bin op_addD ok_add (LO.ofD (LD.bin op_mulI ok_mul (LO.ofD LD.int) (LO.ofD (LD.ix (LO.s 0 (pv 0)) (LO.ofD LD.int) (fun _ _ => rfl))))) (LO.ofD LD.int))))) (LO.ofD LD.int))) LA.nil))) (LO.ofD LD.int))) (LO.ofD LD.int))))
    (LSs.one (LS.ret (LF.ofD (LD.bin op_mod ok_mod (LO.ofD (LD.bin op_fdivW ok_fdiv (LO.s 4 (pv 4)) (LO.ofD LD.int))) (LO.s 1 (pv 1))))))))))))))) hsp
abbrev st_law_one_90da : Stmt := top 19
theorem sc_law_one_90da : FnScope N_law_one_90da ["deck", "items"] (defScope st_law_one_90da) := ⟨rfl, rfl, rfl, by decide +kernel, rfl, by decide +kernel, by decide +kernel⟩
theorem cal_law_one_90da {P : Program} {w : World} {K : PySem.W.Frag} {mg : Str → Option Value} {base : Heap} {k : Nat} (hnd : base.NoDigits) (D : Dn K mg "_law_one" st_law_one_90da ["deck", "items"]) {S_law_draw_a51a : FSpec} (c_law_draw_a51a : Cal P w K mg base k "_law_draw" ["deck", "many"] S_law_draw_a51a) (b_len : mg "len" = none) {S : FSpec}
    (len : ∀ args Q, S.sp args Q → args.length = 2) (hsp : ∀ args Q, S.sp args Q → ir_law_one_90da S_law_draw_a51a (endsOf args Q) (rho0 N_law_one_90da args)) : Cal P w K mg base (k + 1) "_law_one" ["deck", "items"] S := by
  have sc := sc_law_one_90da
  exact def_cal D sc len (fun f cdv A outer s H E hr hgd =>
    (LSs.one (LS.ret (LF.ofD (LD.ix (LO.s 1 (pv 1)) (LO.ofD (LD.ofF (LF.cal c_law_draw_a51a hr hgd rfl (LA.cons (LO.s 0 (pv 0)) (LA.cons (LO.ofD (LD.bi call_lenU ok_len rfl b_len (by decide +kernel) (LA.cons (LO.s 1 (pv 1)) LA.nil))) LA.nil))))) (fun _ _ => rfl)))))) hsp
abbrev st_law_leaf_a91b : Stmt := top 20
theorem sc_law_leaf_a91b : FnScope N_law_leaf_a91b ["deck", "letters"] (defScope st_law_leaf_a91b) := ⟨rfl, rfl, rfl, by decide +kernel, rfl, by decide +kernel, by decide +kernel⟩
theorem cal_law_leaf_a91b {P : Program} {w : World} {K : PySem.W.Frag} {mg : Str → Option Value} {base : Heap} {k : Nat} (hnd : base.NoDigits) (D : Dn K mg "_law_leaf" st_law_leaf_a91b ["deck", "letters"]) {S_law_draw_a51a : FSpec} (c_law_draw_a51a : Cal P w K mg base k "_law_draw" ["deck", "many"] S_law_draw_a51a) {S_law_one_90da : FSpec} (c_law_one_90da : Cal P w K mg base k "_law_one" ["deck", "items"] S_law_one_90da) {S : FSpec}
    (len : ∀ args Q, S.sp args Q → args.length = 2) (hsp : ∀ args Q, S.sp args Q → ir_law_leaf_a91b S_law_draw_a51a S_law_one_90da (endsOf args Q) (rho0 N_law_leaf_a91b args)) : Cal P w K mg base (k + 1) "_law_leaf" ["deck", "letters"] S := by
  have sc := sc_law_leaf_a91b
  exact def_cal D sc len (fun f cdv A outer s H E hr hgd =>
    (LSs.cons (LS.asg (i := 2) sc.nd rfl (by first | exact .inl rfl | exact .inr rfl) (LF.ofD (LD.bin op_addD ok_add (LO.ofD (LD.bin op_mulI ok_mul (LO.ofD (LD.ofF (LF.cal c_law_draw_a51a hr hgd rfl (LA.cons (LO.s 0 (pv 0)) (LA.cons (LO.ofD (LD.bin op_powW ok_pow (LO.ofD LD.int) (LO.ofD LD.int))) LA.nil))))) (LO.ofD (LD.bin op_powW ok_pow (LO.ofD LD.int) (LO.ofD LD.int))))) (LO.ofD (LD.ofF (LF.cal c_law_draw_a51a hr hgd rfl (LA.cons (LO.s 0 (pv 0)) (LA.cons (LO.ofD (LD.bin op_powW ok_pow (LO.ofD LD.int) (LO.ofD LD.int))) LA.nil))))))))
    (LSs.cons (LS.asg (i := 3) sc.nd rfl (by first | exact .inl rfl | exact .inr rfl) (LF.cal c_law_one_90da hr hgd rfl (LA.cons (LO.s 0 (pv 0)) (LA.cons (LO.ofD (LD.ofF (LF.lst (LA.cons (LO.ofD (LD.var 2 (pv 2))) (LA.cons (LO.ofD (LD.neg (LO.s 2 (pv 2)))) (LA.cons (LO.ofD (LD.bin op_sub ok_sub (LO.ofD (LD.bin op_powW ok_pow (LO.ofD LD.int) (LO.ofD LD.int))) (LO.ofD LD.int))) (LA.cons (LO.ofD (LD.bin op_sub ok_sub (LO.ofD LD.int) (LO.ofD (LD.bin op_powW ok_pow (LO.ofD LD.int) (LO.ofD LD.int))))) LA.nil))))))) LA.nil))))
    (LSs.cons (LS.asg (i := 4) sc.nd rfl (by first | exact .inl rfl | exact .inr rfl) (LF.lst (LA.cons (LO.ofD LD.int) (LA.cons (LO.ofD LD.int) (LA.cons (LO.ofD (LD.neg (LO.ofD LD.int))) (LA.cons (LO.ofD LD.int) (LA.cons (LO.ofD LD.int) (LA.cons (LO.ofD (LD.neg (LO.ofD LD.int))) (LA.cons (LO.ofD LD.int) (LA.cons (LO.ofD LD.int) (LA.cons (LO.ofD (LD.bin op_sub ok_sub (LO.ofD (LD.ofF (LF.cal c_law_draw_a51a hr hgd rfl (LA.cons (LO.s 0 (pv 0)) (LA.cons (LO.ofD LD.int) LA.nil))))) (LO.ofD LD.int))) (LA.cons (LO.ofD (LD.var 3 (pv 3))) LA.nil))))))))))))
    (LSs.one (LS.ret (LF.cal c_law_one_90da hr hgd rfl (LA.cons (LO.s 0 (pv 0)) (LA.cons (LO.ofD (LD.ofF (LF.lst (LA.cons (LO.ofD (LD.ofF (LF.cal c_law_one_90da hr hgd rfl (LA.cons (LO.s 0 (pv 0)) (LA.cons (LO.ofD (LD.var 4 (pv 4))) LA.nil))))) (LA.cons (LO.ofD (LD.ofF (LF.cal c_law_one_90da hr hgd rfl (LA.cons (LO.s 0 (pv 0)) (LA.cons (LO.ofD (LD.var 1 (pv 1))) LA.nil))))) (LA.cons (LO.ofD (LD.ofF (LF.cal c_law_one_90da hr hgd rfl (LA.cons (LO.s 0 (pv 0)) (LA.cons (LO.ofD (LD.var 1 (pv 1))) LA.nil))))) LA.nil)))))) LA.nil))))))))) hsp
abbrev st_law_formula_6b2b : Stmt := top 21
theorem sc_law_formula_6b2b : FnScope N_law_formula_6b2b ["deck", "letters", "room", "deep"] (defScope st_law_formula_6b2b) := ⟨rfl, rfl, rfl, by decide +kernel, rfl, by decide +kernel, by decide +kernel⟩
theorem cal_law_formula_6b2b {P : Program} {w : World} {K : PySem.W.Frag} {mg : Str → Option Value} {base : Heap} {k : Nat} (hnd : base.NoDigits) (D : Dn K mg "_law_formula" st_law_formula_6b2b ["deck", "letters", "room", "deep"]) {S_law_draw_a51a : FSpec} (c_law_draw_a51a : Cal P w K mg base k "_law_draw" ["deck", "many"] S_law_draw_a51a) {S_law_leaf_a91b : FSpec} (c_law_leaf_a91b : Cal P w K mg base k "_law_leaf" ["deck", "letters"] S_law_leaf_a91b) {S_law_formula_6b2b : FSpec} (c_law_formula_6b2b : Cal P w K mg base k "_law_formula" ["deck", "letters", "room", "deep"] S_law_formula_6b2b) (b_max : mg "max" = none) {S : FSpec}
    (len : ∀ args Q, S.sp args Q → args.length = 4) (hsp : ∀ args Q, S.sp args Q → ir_law_formula_6b2b S_law_draw_a51a S_law_leaf_a91b S_law_formula_6b2b (endsOf args Q) (rho0 N_law_formula_6b2b args)) : Cal P w K mg base (k + 1) "_law_formula" ["deck", "letters", "room", "deep"] S := by
  have sc := sc_law_formula_6b2b
  exact def_cal D sc len (fun f cdv A outer s H E hr hgd =>
    (LSs.cons (LS.asg (i := 4) sc.nd rfl (by first | exact .inl rfl | exact .inr rfl) (LF.cal c_law_draw_a51a hr hgd rfl (LA.cons (LO.s 0 (pv 0)) (LA.cons (LO.ofD LD.int) LA.nil))))
    (LSs.cons (LS.ite (LT.w (LW.or (LT.cmp op_lt (ok_cI _) (LO.s 3 (pv 3)) (LO.ofD LD.int) (nomark _)) (LW.or (LT.cmp op_lt (ok_cI _) (LO.s 4 (pv 4)) (LO.ofD LD.int) (nomark _)) (LW.or1 (LT.w (LW.and (LT.cmp op_lt (ok_cI _) (LO.s 2 (pv 2)) (LO.ofD LD.int) (nomark _)) (LW.and1 (LT.cmp op_in_seq (ok_in false) (LO.s 4 (pv 4)) (LO.ofD (LD.ofF (LF.lst (LA.cons (LO.ofD LD.int) (LA.cons (LO.ofD LD.int) (LA.cons (LO.ofD LD.int) LA.nil)))))) rfl)))))))) (LSs.one (LS.ret (LF.cal c_law_leaf_a91b hr hgd rfl (LA.cons (LO.s 0 (pv 0)) (LA.cons (LO.ofD (LD.var 1 (pv 1))) LA.nil))))) LSs.nil)
    (LSs.cons (LS.ite (LT.cmp op_lt (ok_cI _) (LO.s 4 (pv 4)) (LO.ofD LD.int) (nomark _)) (LSs.cons (LS.asg (i := 5) sc.nd rfl (by first | exact .inl rfl | exact .inr rfl) (LF.ofD (LD.ix (LO.ofD (LD.ofF (LF.lst (LA.cons (LO.ofD LD.str) (LA.cons (LO.ofD LD.str) (LA.cons (LO.ofD LD.str) LA.nil)))))) (LO.ofD (LD.bin op_sub ok_sub (LO.s 4 (pv 4)) (LO.ofD LD.int))) (fun _ _ => rfl))))
    (LSs.cons (LS.asg (i := 6) sc.nd rfl (by first | exact .inl rfl | exact .inr rfl) (LF.cal c_law_formula_6b2b hr hgd rfl (LA.cons (LO.s 0 (pv 0)) (LA.cons (LO.ofD (LD.var 1 (pv 1))) (LA.cons (LO.ofD (LD.var 2 (pv 2))) (LA.cons (LO.ofD (LD.bin op_sub ok_sub (LO.s 3 (pv 3)) (LO.ofD LD.int))) LA.nil))))))
    (LSs.one (LS.ret (LF.ofD (LD.tup (LA.cons (LO.ofD (LD.var 5 (pv 5))) (LA.cons (LO.ofD (LD.var 6 (pv 6))) (LA.cons (LO.ofD (LD.ofF (LF.cal c_law_formula_6b2b hr hgd rfl (LA.cons (LO.s 0 (pv 0)) (LA.cons (LO.ofD (LD.var 1 (pv 1))) (LA.cons (LO.ofD (LD.var 2 (pv 2))) (LA.cons (LO.ofD (LD.bin op_sub ok_sub (LO.s 3 (pv 3)) (LO.ofD LD.int))) LA.nil))))))) LA.nil))))))))) LSs.nil)
    (LSs.cons (LS.ite (LT.cmp (op_eqU hr.units) ok_eq (LO.s 4 (pv 4)) (LO.ofD LD.int) (nomark _)) (LSs.cons (LS.asg (i := 7) sc.nd rfl (by first | exact .inl rfl | exact .inr rfl) (LF.cal c_law_draw_a51a hr hgd rfl (LA.cons (LO.s 0 (pv 0)) (LA.cons (LO.ofD (LD.bin op_addD ok_add (LO.s 2 (pv 2)) (LO.ofD LD.int))) LA.nil))))
    (LSs.one (LS.ret (LF.ofD (LD.tup (LA.cons (LO.ofD LD.str) (LA.cons (LO.ofD (LD.ofF (LF.cal c_law_formula_6b2b hr hgd rfl (LA.cons (LO.s 0 (pv 0)) (LA.cons (LO.ofD (LD.var 1 (pv 1))) (LA.cons (LO.ofD (LD.bin op_fdivW ok_fdiv (LO.s 2 (pv 2)) (LO.ofD (LD.bi (call_max2 rfl) ok_max2 rfl b_max (by decide +kernel) (LA.cons (LO.ofD LD.int) (LA.cons (LO.s 7 (pv 7)) LA.nil)))))) (LA.cons (LO.ofD (LD.bin op_sub ok_sub (LO.s 3 (pv 3)) (LO.ofD LD.int))) LA.nil))))))) (LA.cons (LO.ofD (LD.var 7 (pv 7))) LA.nil)))))))) LSs.nil)
    (LSs.cons (LS.asg (i := 8) sc.nd rfl (by first | exact .inl rfl | exact .inr rfl) (LF.ofD (LD.bin op_addD ok_add (LO.ofD LD.int) (LO.ofD (LD.ofF (LF.cal c_law_draw_a51a hr hgd rfl (LA.cons (LO.s 0 (pv 0)) (LA.cons (LO.ofD (LD.bin op_sub ok_sub (LO.s 2 (pv 2)) (LO.ofD LD.int))) LA.nil))))))))
    (LSs.cons (LS.asg (i := 6) sc.nd rfl (by first | exact .inl rfl | exact .inr rfl) (LF.cal c_law_formula_6b2b hr hgd rfl (LA.cons (LO.s 0 (pv 0)) (LA.cons (LO.ofD (LD.var 1 (pv 1))) (LA.cons (LO.ofD (LD.var 8 (pv 8))) (LA.cons (LO.ofD (LD.bin op_sub ok_sub (LO.s 3 (pv 3)) (LO.ofD LD.int))) LA.nil))))))
    (LSs.one (LS.ret (LF.ofD (LD.tup (LA.cons (LO.ofD LD.str) (LA.cons (LO.ofD (LD.var 6 (pv 6))) (LA.cons (LO.ofD (LD.ofF (LF.cal c_law_formula_6b2b hr hgd rfl (LA.cons (LO.s 0 (pv 0)) (LA.cons (LO.ofD (LD.var 1 (pv 1))) (LA.cons (LO.ofD (LD.bin op_sub ok_sub (LO.s 2 (pv 2)) (LO.s 8 (pv 8)))) (LA.cons (LO.ofD (LD.bin op_sub ok_sub (LO.s 3 (pv 3)) (LO.ofD LD.int))) LA.nil))))))) LA.nil)))))))))))))) hsp
abbrev st_law_is_leaf_a50f : Stmt := top 22
theorem sc_law_is_leaf_a50f : FnScope N_law_is_leaf_a50f ["value"] (defScope st_law_is_leaf_a50f) := ⟨rfl, rfl, rfl, by decide +kernel, rfl, by decide +kernel, by decide +kernel⟩
theorem cal_law_is_leaf_a50f {P : Program} {w : World} {K : PySem.W.Frag} {mg : Str → Option Value} {base : Heap} {k : Nat} (hnd : base.NoDigits) (D : Dn K mg "_law_is_leaf" st_law_is_leaf_a50f ["value"]) (b_isinstance : mg "isinstance" = none) (b_str : mg "str" = none) (b_abs : mg "abs" = none) (b_bool : mg "bool" = none) (b_int : mg "int" = none) {S : FSpec}
    (len : ∀ args Q, S.sp args Q → args.length = 1) (hsp : ∀ args Q, S.sp args Q → ir_law_is_leaf_a50f (endsOf args Q) (rho0 N_law_is_leaf_a50f args)) : Cal P w K mg base (k + 1) "_law_is_leaf" ["value"] S := by
  have sc := sc_law_is_leaf_a50f
  exact def_cal D sc len (fun f cdv A outer s H E hr hgd =>
    (LSs.cons (LS.ite (LT.val (LD.isi "str" (by simp) rfl b_isinstance rfl b_str (by decide +kernel) (LO.s 0 (pv 0)))) (LSs.one (LS.ret (LF.ofD (LD.cmp op_in_seq (ok_in false) (LO.s 0 (pv 0)) (LO.ofD (LD.ofF (LF.lst (LA.cons (LO.ofD LD.str) (LA.cons (LO.ofD LD.str) LA.nil))))) rfl)))) LSs.nil)
    (LSs.one (LS.ret (LF.ofD (LD.and (LD.isi "int" (by simp) rfl b_isinstance rfl b_int (by decide +kernel) (LO.s 0 (pv 0))) (LD.and (LD.not (LD.isi "bool" (by simp) rfl b_isinstance rfl b_bool (by decide +kernel) (LO.s 0 (pv 0)))) (LD.one (LD.cmp op_lt (ok_cI _) (LO.ofD (LD.bi call_abs ok_abs rfl b_abs (by decide +kernel) (LA.cons (LO.s 0 (pv 0)) LA.nil))) (LO.ofD (LD.bin op_powW ok_pow (LO.ofD LD.int) (LO.ofD LD.int))) (nomark _)))))))))) hsp
abbrev st_law_parts_a0f1 : Stmt := top 23
theorem sc_law_parts_a0f1 : FnScope N_law_parts_a0f1 ["value"] (defScope st_law_parts_a0f1) := ⟨rfl, rfl, rfl, by decide +kernel, rfl, by decide +kernel, by decide +kernel⟩
theorem cal_law_parts_a0f1 {P : Program} {w : World} {K : PySem.W.Frag} {mg : Str → Option Value} {base : Heap} {k : Nat} (hnd : base.NoDigits) (D : Dn K mg "_law_parts" st_law_parts_a0f1 ["value"]) (b_isinstance : mg "isinstance" = none) (b_str : mg "str" = none) (b_len : mg "len" = none) (b_tuple : mg "tuple" = none) {S : FSpec}
    (len : ∀ args Q, S.sp args Q → args.length = 1) (hsp : ∀ args Q, S.sp args Q → ir_law_parts_a0f1 (endsOf args Q) (rho0 N_law_parts_a0f1 args)) : Cal P w K mg base (k + 1) "_law_parts" ["value"] S := by
  have sc := sc_law_parts_a0f1
  exact def_cal D sc len (fun f cdv A outer s H E hr hgd =>
    (LSs.cons (LS.par (i := 1) (j := 2) rfl sc.nd rfl rfl (by decide) rfl rfl (LF.lst LA.nil) (LF.lst (LA.cons (LO.ofD (LD.ofF (LF.lst (LA.cons (LO.ofD (LD.var 0 (pv 0))) (LA.cons (LO.ofD LD.int) LA.nil))))) LA.nil)) rfl)
    (LSs.cons (LS.while PassesOwn.never (LT.cmp (op_neU hr.units) ok_ne (LO.s 2 (pv 2)) (LO.ofD (LD.ofF (LF.lst LA.nil))) (nomark _)) (LSs.cons (LS.unl (is := [3, 4]) (pg_unl rfl (pgs_cons (pg_name (i := 3) sc.nd rfl (by first | exact .inl rfl | exact .inr rfl)) (pgs_cons (pg_name (i := 4) sc.nd rfl (by first | exact .inl rfl | exact .inr rfl)) pgs_nil))) (LD.pop (pe_bm0 PySem.F.plainAttrs_list PySem.F.slot_list_pop PySem.F.type_list_pop mt_pop (pv 2))))
    (LSs.cons (LS.app (pe_bm PySem.F.plainAttrs_list PySem.F.slot_list_append PySem.F.type_list_append mt_append (pv 1) (pa_cons (pD (LD.ofF (LF.lst (LA.cons (LO.ofD (LD.var 3 (pv 3))) (LA.cons (LO.ofD (LD.var 4 (pv 4))) LA.nil))))) pa_nil)))
    (LSs.one (LS.ite (LT.w (LW.and (LT.val (LD.isi "tuple" (by simp) rfl b_isinstance rfl b_tuple (by decide +kernel) (LO.s 3 (pv 3)))) (LW.and (LT.cmp (op_eqU hr.units) ok_eq (LO.ofD (LD.bi call_lenU ok_len rfl b_len (by decide +kernel) (LA.cons (LO.s 3 (pv 3)) LA.nil))) (LO.ofD LD.int) (nomark _)) (LW.and1 (LT.val (LD.isi "str" (by simp) rfl b_isinstance rfl b_str (by decide +kernel) (LO.ofD (LD.ix (LO.s 3 (pv 3)) (LO.ofD LD.int) (fun _ _ => rfl))))))))) (LSs.one (LS.ite (LT.cmp op_in_seq (ok_in false) (LO.ofD (LD.ix (LO.s 3 (pv 3)) (LO.ofD LD.int) (fun _ _ => rfl))) (LO.ofD (LD.ofF (LF.lst (LA.cons (LO.ofD LD.str) (LA.cons (LO.ofD LD.str) (LA.cons (LO.ofD LD.str) LA.nil)))))) rfl) (LSs.one (LS.ext (pe_bm PySem.F.plainAttrs_list PySem.F.slot_list_extend PySem.F.type_list_extend mt_extD (pv 2) (pa_cons (pO (LO.ofD (LD.ofF (LF.lst (LA.cons (LO.ofD (LD.ofF (LF.lst (LA.cons (LO.ofD (LD.ix (LO.s 3 (pv 3)) (LO.ofD LD.int) (fun _ _ => rfl))) (LA.cons (LO.ofD (LD.bin op_addD ok_add (LO.s 4 (pv 4)) (LO.ofD LD.int))) LA.nil))))) (LA.cons (LO.ofD (LD.ofF (LF.lst (LA.cons (LO.ofD (LD.ix (LO.s 3 (pv 3)) (LO.ofD LD.int) (fun _ _ => rfl))) (LA.cons (LO.ofD (LD.bin op_addD ok_add (LO.s 4 (pv 4)) (LO.ofD LD.int))) LA.nil))))) LA.nil)))))) pa_nil)))) (LSs.one (LS.ite (LT.cmp (op_eqU hr.units) ok_eq (LO.ofD (LD.ix (LO.s 3 (pv 3)) (LO.ofD LD.int) (fun _ _ => rfl))) (LO.ofD LD.str) (nomark _)) (LSs.one (LS.app (pe_bm PySem.F.plainAttrs_list PySem.F.slot_list_append PySem.F.type_list_append mt_append (pv 2) (pa_cons (pD (LD.ofF (LF.lst (LA.cons (LO.ofD (LD.ix (LO.s 3 (pv 3)) (LO.ofD LD.int) (fun _ _ => rfl))) (LA.cons (LO.ofD (LD.bin op_addD ok_add (LO.s 4 (pv 4)) (LO.ofD LD.int))) LA.nil))))) pa_nil)))) LSs.nil)))) LSs.nil)))))
    (LSs.one (LS.retV 1 (pv 1)))))) hsp
abbrev st_law_is_part_88ea : Stmt := top 24
theorem sc_law_is_part_88ea : FnScope N_law_is_part_88ea ["one"] (defScope st_law_is_part_88ea) := ⟨rfl, rfl, rfl, by decide +kernel, rfl, by decide +kernel, by decide +kernel⟩
theorem cal_law_is_part_88ea {P : Program} {w : World} {K : PySem.W.Frag} {mg : Str → Option Value} {base : Heap} {k : Nat} (hnd : base.NoDigits) (D : Dn K mg "_law_is_part" st_law_is_part_88ea ["one"]) {S_law_is_leaf_a50f : FSpec} (c_law_is_leaf_a50f : Cal P w K mg base k "_law_is_leaf" ["value"] S_law_is_leaf_a50f) (b_isinstance : mg "isinstance" = none) (b_str : mg "str" = none) (b_len : mg "len" = none) (b_tuple : mg "tuple" = none) (b_bool : mg "bool" = none) (b_int : mg "int" = none) {S : FSpec}
    (len : ∀ args Q, S.sp args Q → args.length = 1) (hsp : ∀ args Q, S.sp args Q → ir_law_is_part_88ea S_law_is_leaf_a50f (endsOf args Q) (rho0 N_law_is_part_88ea args)) : Cal P w K mg base (k + 1) "_law_is_part" ["one"] S := by
  have sc := sc_law_is_part_88ea
  exact def_cal D sc len (fun f cdv A outer s H E hr hgd =>
    (LSs.cons (LS.ite (LT.val (LD.ofF (LF.cal c_law_is_leaf_a50f hr hgd rfl (LA.cons (LO.ofD (LD.var 0 (pv 0))) LA.nil)))) (LSs.one (LS.ret (LF.ofD LD.bl))) LSs.nil)
    (LSs.cons (LS.ite (LT.w (LW.or (LT.not (LT.val (LD.isi "tuple" (by simp) rfl b_isinstance rfl b_tuple (by decide +kernel) (LO.s 0 (pv 0))))) (LW.or (LT.cmp (op_neU hr.units) ok_ne (LO.ofD (LD.bi call_lenU ok_len rfl b_len (by decide +kernel) (LA.cons (LO.s 0 (pv 0)) LA.nil))) (LO.ofD LD.int) (nomark _)) (LW.or1 (LT.not (LT.val (LD.isi "str" (by simp) rfl b_isinstance rfl b_str (by decide +kernel) (LO.ofD (LD.ix (LO.s 0 (pv 0)) (LO.ofD LD.int) (fun _ _ => rfl)))))))))) (LSs.one (LS.ret (LF.ofD LD.bl))) LSs.nil)
    (LSs.cons (LS.ite (LT.cmp op_in_seq (ok_in false) (LO.ofD (LD.ix (LO.s 0 (pv 0)) (LO.ofD LD.int) (fun _ _ => rfl))) (LO.ofD (LD.ofF (LF.lst (LA.cons (LO.ofD LD.str) (LA.cons (LO.ofD LD.str) (LA.cons (LO.ofD LD.str) LA.nil)))))) rfl) (LSs.one (LS.ret (LF.ofD LD.bl))) LSs.nil)
    (LSs.cons (LS.asg (i := 1) sc.nd rfl (by first | exact .inl rfl | exact .inr rfl) (LF.ofD (LD.and (LD.isi "int" (by simp) rfl b_isinstance rfl b_int (by decide +kernel) (LO.ofD (LD.ix (LO.s 0 (pv 0)) (LO.ofD LD.int) (fun _ _ => rfl)))) (LD.one (LD.not (LD.isi "bool" (by simp) rfl b_isinstance rfl b_bool (by decide +kernel) (LO.ofD (LD.ix (LO.s 0 (pv 0)) (LO.ofD LD.int) (fun _ _ => rfl)))))))))
    (LSs.one (LS.ret (LF.ofD (LD.and (LD.cmp (op_eqU hr.units) ok_eq (LO.ofD (LD.ix (LO.s 0 (pv 0)) (LO.ofD LD.int) (fun _ _ => rfl))) (LO.ofD LD.str) (nomark _)) (LD.and (LD.var 1 (pv 1)) (LD.one (LD.chain op_le op_le (LO.ofD LD.int) (LO.ofD (LD.ix (LO.s 0 (pv 0)) (LO.ofD LD.int) (fun _ _ => rfl))) (LO.ofD LD.int))))))))))))) hsp
abbrev st_law_reach_3ce3 : Stmt := top 25
theorem sc_law_reach_3ce3 : FnScope N_law_reach_3ce3 ["formula"] (defScope st_law_reach_3ce3) := ⟨rfl, rfl, rfl, by decide +kernel, rfl, by decide +kernel, by decide +kernel⟩
theorem cal_law_reach_3ce3 {P : Program} {w : World} {K : PySem.W.Frag} {mg : Str → Option Value} {base : Heap} {k : Nat} (hnd : base.NoDigits) (D : Dn K mg "_law_reach" st_law_reach_3ce3 ["formula"]) {S_law_reach_3ce3 : FSpec} (c_law_reach_3ce3 : Cal P w K mg base k "_law_reach" ["formula"] S_law_reach_3ce3) (b_isinstance : mg "isinstance" = none) (b_tuple : mg "tuple" = none) (b_max : mg "max" = none) {S : FSpec}
    (len : ∀ args Q, S.sp args Q → args.length = 1) (hsp : ∀ args Q, S.sp args Q → ir_law_reach_3ce3 S_law_reach_3ce3 (endsOf args Q) (rho0 N_law_reach_3ce3 args)) : Cal P w K mg base (k + 1) "_law_reach" ["formula"] S := by
  have sc := sc_law_reach_3ce3
  exact def_cal D sc len (fun f cdv A outer s H E hr hgd =>
    (LSs.cons (LS.ite (LT.not (LT.val (LD.isi "tuple" (by simp) rfl b_isinstance rfl b_tuple (by decide +kernel) (LO.s 0 (pv 0))))) (LSs.one (LS.ret (LF.ofD LD.int))) LSs.nil)
    (LSs.cons (LS.ite (LT.cmp (op_eqU hr.units) ok_eq (LO.ofD (LD.ix (LO.s 0 (pv 0)) (LO.ofD LD.int) (fun _ _ => rfl))) (LO.ofD LD.str) (nomark _)) (LSs.one (LS.ret (LF.ofD (LD.bi (call_max2 rfl) ok_max2 rfl b_max (by decide +kernel) (LA.cons (LO.ofD LD.int) (LA.cons (LO.ofD (LD.bin op_mulI ok_mul (LO.ofD (LD.ix (LO.s 0 (pv 0)) (LO.ofD LD.int) (fun _ _ => rfl))) (LO.ofD (LD.ofF (LF.cal c_law_reach_3ce3 hr hgd rfl (LA.cons (LO.ofD (LD.ix (LO.s 0 (pv 0)) (LO.ofD LD.int) (fun _ _ => rfl))) LA.nil)))))) LA.nil)))))) LSs.nil)
    (LSs.cons (LS.par (i := 1) (j := 2) rfl sc.nd rfl rfl (by decide) rfl rfl (LF.cal c_law_reach_3ce3 hr hgd rfl (LA.cons (LO.ofD (LD.ix (LO.s 0 (pv 0)) (LO.ofD LD.int) (fun _ _ => rfl))) LA.nil)) (LF.cal c_law_reach_3ce3 hr hgd rfl (LA.cons (LO.ofD (LD.ix (LO.s 0 (pv 0)) (LO.ofD LD.int) (fun _ _ => rfl))) LA.nil)) rfl)
    (LSs.one (LS.ret (LF.ofD (LD.ite (LT.cmp (op_eqU hr.units) ok_eq (LO.ofD (LD.ix (LO.s 0 (pv 0)) (LO.ofD LD.int) (fun _ _ => rfl))) (LO.ofD LD.str) (nomark _)) (LD.bin op_addD ok_add (LO.s 1 (pv 1)) (LO.s 2 (pv 2))) (LD.bi (call_max2 rfl) ok_max2 rfl b_max (by decide +kernel) (LA.cons (LO.s 1 (pv 1)) (LA.cons (LO.s 2 (pv 2)) LA.nil))))))))))) hsp
abbrev st_law_due_f025 : Stmt := top 26
theorem sc_law_due_f025 : FnScope N_law_due_f025 ["value"] (defScope st_law_due_f025) := ⟨rfl, rfl, rfl, by decide +kernel, rfl, by decide +kernel, by decide +kernel⟩
theorem cal_law_due_f025 {P : Program} {w : World} {K : PySem.W.Frag} {mg : Str → Option Value} {base : Heap} {k : Nat} (hnd : base.NoDigits) (D : Dn K mg "_law_due" st_law_due_f025 ["value"]) {S_law_parts_a0f1 : FSpec} (c_law_parts_a0f1 : Cal P w K mg base k "_law_parts" ["value"] S_law_parts_a0f1) {S_law_is_part_88ea : FSpec} (c_law_is_part_88ea : Cal P w K mg base k "_law_is_part" ["one"] S_law_is_part_88ea) {S_law_reach_3ce3 : FSpec} (c_law_reach_3ce3 : Cal P w K mg base k "_law_reach" ["formula"] S_law_reach_3ce3) (b_len : mg "len" = none) {S : FSpec}
    (len : ∀ args Q, S.sp args Q → args.length = 1) (hsp : ∀ args Q, S.sp args Q → ir_law_due_f025 S_law_parts_a0f1 S_law_is_part_88ea S_law_reach_3ce3 (endsOf args Q) (rho0 N_law_due_f025 args)) : Cal P w K mg base (k + 1) "_law_due" ["value"] S := by
  have sc := sc_law_due_f025
  exact def_cal D sc len (fun f cdv A outer s H E hr hgd =>
    (LSs.cons (LS.asg (i := 1) sc.nd rfl (by first | exact .inl rfl | exact .inr rfl) (LF.cal c_law_parts_a0f1 hr hgd rfl (LA.cons (LO.ofD (LD.var 0 (pv 0))) LA.nil)))
    (LSs.cons (LS.ite (LT.w (LW.or (LT.cmp (op_neU hr.units) ok_ne (LO.ofD (LD.ofF (LF.lc (pt := (.ul [2, 3])) (vs := [2, 3]) rfl sc.nd (LI.own 1 (pv 1)) (blk_mk (N := N_law_due_f025) (own := [("one", 2), ("deep", 3)]) [] (by decide +kernel) trivial) rfl (by decide) (fun _ _ _ _ _ => (pg_unl rfl (pgs_cons (pg_name (i := 2) sc.nd rfl (by first | exact .inl rfl | exact .inr rfl)) (pgs_cons (pg_name (i := 3) sc.nd rfl (by first | exact .inl rfl | exact .inr rfl)) pgs_nil)))) (fun _ _ _ _ _ => pts_one (pT (LT.w (LW.or (LT.not (LT.val (LD.ofF (LF.cal c_law_is_part_88ea hr hgd rfl (LA.cons (LO.ofD (LD.var 2 (pv 2))) LA.nil))))) (LW.or1 (LT.cmp op_gt (ok_cI _) (LO.s 3 (pv 3)) (LO.ofD LD.int) (nomark _))))))) (fun _ _ _ _ _ => LD.int)))) (LO.ofD (LD.ofF (LF.lst LA.nil))) (nomark _)) (LW.or1 (LT.cmp op_gt (ok_cI _) (LO.ofD (LD.bi call_lenU ok_len rfl b_len (by decide +kernel) (LA.cons (LO.s 1 (pv 1)) LA.nil))) (LO.ofD LD.int) (nomark _))))) (LSs.one (LS.ret (LF.ofD LD.bl))) LSs.nil)
    (LSs.one (LS.ret (LF.ofD (LD.cmp (op_eqU hr.units) ok_eq (LO.ofD (LD.ofF (LF.lc (pt := (.ul [2, 3])) (vs := [2, 3]) rfl sc.nd (LI.own 1 (pv 1)) (blk_mk (N := N_law_due_f025) (own := [("one", 2), ("deep", 3)]) [] (by decide +kernel) trivial) rfl (by decide) (fun _ _ _ _ _ => (pg_unl rfl (pgs_cons (pg_name (i := 2) sc.nd rfl (by first | exact .inl rfl | exact .inr rfl)) (pgs_cons (pg_name (i := 3) sc.nd rfl (by first | exact .inl rfl | exact .inr rfl)) pgs_nil)))) (fun _ _ _ _ _ => pts_one (pT (LT.cmp op_gt (ok_cI _) (LO.ofD (LD.ofF (LF.cal c_law_reach_3ce3 hr hgd rfl (LA.cons (LO.ofD (LD.var 2 (pv 2))) LA.nil)))) (LO.ofD LD.int) (nomark _)))) (fun _ _ _ _ _ => LD.int)))) (LO.ofD (LD.ofF (LF.lst LA.nil))) (nomark _)))))))) hsp
abbrev st_law_odd_879d : Stmt := top 27
theorem sc_law_odd_879d : FnScope N_law_odd_879d ["deck", "one"] (defScope st_law_odd_879d) := ⟨rfl, rfl, rfl, by decide +kernel, rfl, by decide +kernel, by decide +kernel⟩
theorem cal_law_odd_879d {P : Program} {w : World} {K : PySem.W.Frag} {mg : Str → Option Value} {base : Heap} {k : Nat} (hnd : base.NoDigits) (D : Dn K mg "_law_odd" st_law_odd_879d ["deck", "one"]) {S_law_one_90da : FSpec} (c_law_one_90da : Cal P w K mg base k "_law_one" ["deck", "items"] S_law_one_90da) {S : FSpec}
    (len : ∀ args Q, S.sp args Q → args.length = 2) (hsp : ∀ args Q, S.sp args Q → ir_law_odd_879d S_law_one_90da (endsOf args Q) (rho0 N_law_odd_879d args)) : Cal P w K mg base (k + 1) "_law_odd" ["deck", "one"] S := by
  have sc := sc_law_odd_879d
  exact def_cal D sc len (fun f cdv A outer s H E hr hgd =>
    (LSs.cons (LS.asg (i := 2) sc.nd rfl (by first | exact .inl rfl | exact .inr rfl) (LF.lst (LA.cons (LO.ofD LD.non) (LA.cons (LO.ofD LD.bl) (LA.cons (LO.ofD LD.bl) (LA.cons (LO.ofD LD.str) (LA.cons (LO.ofD LD.str) (LA.cons (LO.ofD LD.str) (LA.cons (LO.ofD (LD.bin op_powW ok_pow (LO.ofD LD.int) (LO.ofD LD.int))) (LA.cons (LO.ofD (LD.neg (LO.ofD (LD.bin op_powW ok_pow (LO.ofD LD.int) (LO.ofD LD.int))))) (LA.cons (LO.ofD (LD.bin op_sub ok_sub (LO.ofD (LD.bin op_powW ok_pow (LO.ofD LD.int) (LO.ofD LD.int))) (LO.ofD LD.int))) (LA.cons (LO.ofD (LD.ofF (LF.lst LA.nil))) (LA.cons (LO.ofD (LD.tup LA.nil)) (LA.cons (LO.ofD (LD.tup (LA.cons (LO.ofD LD.str) (LA.cons (LO.ofD (LD.var 1 (pv 1))) LA.nil)))) (LA.cons (LO.ofD (LD.tup (LA.cons (LO.ofD LD.str) (LA.cons (LO.ofD (LD.var 1 (pv 1))) (LA.cons (LO.ofD LD.int) LA.nil))))) LA.nil)))))))))))))))
    (LSs.cons (LS.asg (i := 2) sc.nd rfl (by first | exact .inl rfl | exact .inr rfl) (LF.ofD (LD.bin op_addD ok_add (LO.s 2 (pv 2)) (LO.ofD (LD.ofF (LF.lst (LA.cons (LO.ofD (LD.tup (LA.cons (LO.ofD LD.str) (LA.cons (LO.ofD (LD.var 1 (pv 1))) (LA.cons (LO.ofD LD.bl) LA.nil))))) (LA.cons (LO.ofD (LD.tup (LA.cons (LO.ofD LD.str) (LA.cons (LO.ofD (LD.var 1 (pv 1))) (LA.cons (LO.ofD (LD.neg (LO.ofD LD.int))) LA.nil))))) (LA.cons (LO.ofD (LD.tup (LA.cons (LO.ofD LD.str) (LA.cons (LO.ofD (LD.var 1 (pv 1))) (LA.cons (LO.ofD LD.str) LA.nil))))) (LA.cons (LO.ofD (LD.ofF (LF.lst (LA.cons (LO.ofD LD.str) (LA.cons (LO.ofD (LD.var 1 (pv 1))) (LA.cons (LO.ofD (LD.var 1 (pv 1))) LA.nil)))))) (LA.cons (LO.ofD (LD.tup (LA.cons (LO.ofD LD.str) (LA.cons (LO.ofD (LD.var 1 (pv 1))) (LA.cons (LO.ofD (LD.var 1 (pv 1))) (LA.cons (LO.ofD (LD.var 1 (pv 1))) LA.nil)))))) LA.nil)))))))))))
    (LSs.cons (LS.asg (i := 2) sc.nd rfl (by first | exact .inl rfl | exact .inr rfl) (LF.ofD (LD.bin op_addD ok_add (LO.s 2 (pv 2)) (LO.ofD (LD.ofF (LF.lst (LA.cons (LO.ofD (LD.tup (LA.cons (LO.ofD LD.str) (LA.cons (LO.ofD (LD.var 1 (pv 1))) (LA.cons (LO.ofD (LD.var 1 (pv 1))) LA.nil))))) (LA.cons (LO.ofD (LD.tup (LA.cons (LO.ofD LD.str) (LA.cons (LO.ofD (LD.var 1 (pv 1))) (LA.cons (LO.ofD LD.int) LA.nil))))) (LA.cons (LO.ofD (LD.tup (LA.cons (LO.ofD LD.str) (LA.cons (LO.ofD (LD.var 1 (pv 1))) (LA.cons (LO.ofD LD.int) LA.nil))))) (LA.cons (LO.ofD (LD.tup (LA.cons (LO.ofD LD.str) (LA.cons (LO.ofD (LD.var 1 (pv 1))) (LA.cons (LO.ofD (LD.var 1 (pv 1))) LA.nil))))) (LA.cons (LO.ofD (LD.tup (LA.cons (LO.ofD LD.int) (LA.cons (LO.ofD (LD.var 1 (pv 1))) (LA.cons (LO.ofD (LD.var 1 (pv 1))) LA.nil))))) (LA.cons (LO.ofD (LD.tup (LA.cons (LO.ofD (LD.var 1 (pv 1))) LA.nil))) LA.nil))))))))))))
    (LSs.cons (LS.asg (i := 2) sc.nd rfl (by first | exact .inl rfl | exact .inr rfl) (LF.ofD (LD.bin op_addD ok_add (LO.s 2 (pv 2)) (LO.ofD (LD.ofF (LF.lst (LA.cons (LO.ofD (LD.tup (LA.cons (LO.ofD LD.str) (LA.cons (LO.ofD LD.int) (LA.cons (LO.ofD (LD.var 1 (pv 1))) LA.nil))))) (LA.cons (LO.ofD (LD.tup (LA.cons (LO.ofD LD.str) (LA.cons (LO.ofD (LD.var 1 (pv 1))) (LA.cons (LO.ofD LD.non) LA.nil))))) (LA.cons (LO.ofD (LD.tup (LA.cons (LO.ofD LD.str) (LA.cons (LO.ofD LD.str) (LA.cons (LO.ofD (LD.var 1 (pv 1))) LA.nil))))) (LA.cons (LO.ofD (LD.tup (LA.cons (LO.ofD LD.str) (LA.cons (LO.ofD (LD.ofF (LF.lst (LA.cons (LO.ofD (LD.var 1 (pv 1))) LA.nil)))) (LA.cons (LO.ofD (LD.var 1 (pv 1))) LA.nil))))) (LA.cons (LO.ofD (LD.ofF (LF.lst (LA.cons (LO.ofD LD.str) LA.nil)))) LA.nil)))))))))))
    (LSs.cons (LS.asg (i := 2) sc.nd rfl (by first | exact .inl rfl | exact .inr rfl) (LF.ofD (LD.bin op_addD ok_add (LO.s 2 (pv 2)) (LO.ofD (LD.ofF (LF.lst (LA.cons (LO.ofD (LD.tup (LA.cons (LO.ofD (LD.ofF (LF.lst (LA.cons (LO.ofD (LD.var 1 (pv 1))) LA.nil)))) (LA.cons (LO.ofD (LD.var 1 (pv 1))) (LA.cons (LO.ofD (LD.var 1 (pv 1))) LA.nil))))) (LA.cons (LO.ofD (LD.tup (LA.cons (LO.ofD (LD.ofF (LF.lst LA.nil))) (LA.cons (LO.ofD LD.str) (LA.cons (LO.ofD LD.int) LA.nil))))) (LA.cons (LO.ofD (LD.tup (LA.cons (LO.ofD (LD.tup (LA.cons (LO.ofD LD.str) (LA.cons (LO.ofD (LD.ofF (LF.lst LA.nil))) LA.nil)))) (LA.cons (LO.ofD (LD.var 1 (pv 1))) (LA.cons (LO.ofD (LD.var 1 (pv 1))) LA.nil))))) (LA.cons (LO.ofD (LD.tup (LA.cons (LO.ofD LD.non) (LA.cons (LO.ofD (LD.var 1 (pv 1))) (LA.cons (LO.ofD (LD.var 1 (pv 1))) LA.nil))))) (LA.cons (LO.ofD (LD.tup (LA.cons (LO.ofD LD.bl) (LA.cons (LO.ofD (LD.var 1 (pv 1))) (LA.cons (LO.ofD LD.int) LA.nil))))) LA.nil)))))))))))
    (LSs.one (LS.ret (LF.cal c_law_one_90da hr hgd rfl (LA.cons (LO.s 0 (pv 0)) (LA.cons (LO.ofD (LD.var 2 (pv 2))) LA.nil))))))))))) hsp
abbrev st_law_bent_017e : Stmt := top 28
theorem sc_law_bent_017e : FnScope N_law_bent_017e ["deck", "value"] (defScope st_law_bent_017e) := ⟨rfl, rfl, rfl, by decide +kernel, rfl, by decide +kernel, by decide +kernel⟩
theorem cal_law_bent_017e {P : Program} {w : World} {K : PySem.W.Frag} {mg : Str → Option Value} {base : Heap} {k : Nat} (hnd : base.NoDigits) (D : Dn K mg "_law_bent" st_law_bent_017e ["deck", "value"]) {S_law_draw_a51a : FSpec} (c_law_draw_a51a : Cal P w K mg base k "_law_draw" ["deck", "many"] S_law_draw_a51a) {S_law_bent_017e : FSpec} (c_law_bent_017e : Cal P w K mg base k "_law_bent" ["deck", "value"] S_law_bent_017e) {S_law_odd_879d : FSpec} (c_law_odd_879d : Cal P w K mg base k "_law_odd" ["deck", "one"] S_law_odd_879d) (b_len : mg "len" = none) (b_isinstance : mg "isinstance" = none) (b_tuple : mg "tuple" = none) {S : FSpec}
    (len : ∀ args Q, S.sp args Q → args.length = 2) (hsp : ∀ args Q, S.sp args Q → ir_law_bent_017e S_law_draw_a51a S_law_bent_017e S_law_odd_879d (endsOf args Q) (rho0 N_law_bent_017e args)) : Cal P w K mg base (k + 1) "_law_bent" ["deck", "value"] S := by
  have sc := sc_law_bent_017e
  exact def_cal D sc len (fun f cdv A outer s H E hr hgd =>
    (LSs.cons (LS.ite (LT.w (LW.and (LT.val (LD.isi "tuple" (by simp) rfl b_isinstance rfl b_tuple (by decide +kernel) (LO.s 1 (pv 1)))) (LW.and (LT.cmp (op_eqU hr.units) ok_eq (LO.ofD (LD.bi call_lenU ok_len rfl b_len (by decide +kernel) (LA.cons (LO.s 1 (pv 1)) LA.nil))) (LO.ofD LD.int) (nomark _)) (LW.and1 (LT.cmp op_gt (ok_cI _) (LO.ofD (LD.ofF (LF.cal c_law_draw_a51a hr hgd rfl (LA.cons (LO.s 0 (pv 0)) (LA.cons (LO.ofD LD.int) LA.nil))))) (LO.ofD LD.int) (nomark _)))))) (LSs.cons (LS.asg (i := 2) sc.nd rfl (by first | exact .inl rfl | exact .inr rfl) (LF.ofD (LD.bin op_addD ok_add (LO.ofD LD.int) (LO.ofD (LD.ofF (LF.cal c_law_draw_a51a hr hgd rfl (LA.cons (LO.s 0 (pv 0)) (LA.cons (LO.ofD LD.int) LA.nil))))))))
    (LSs.one (LS.ret (LF.ofD (LD.bin op_addD ok_add (LO.ofD (LD.bin op_addT ok_addT (LO.ofD (LD.sl (LO.s 1 (pv 1)) LP.none (LP.some (LO.s 2 (pv 2))))) (LO.ofD (LD.tup (LA.cons (LO.ofD (LD.ofF (LF.cal c_law_bent_017e hr hgd rfl (LA.cons (LO.s 0 (pv 0)) (LA.cons (LO.ofD (LD.ix (LO.s 1 (pv 1)) (LO.s 2 (pv 2)) (fun _ _ => rfl))) LA.nil))))) LA.nil))))) (LO.ofD (LD.sl (LO.s 1 (pv 1)) (LP.some (LO.ofD (LD.bin op_addD ok_add (LO.s 2 (pv 2)) (LO.ofD LD.int)))) LP.none))))))) LSs.nil)
    (LSs.one (LS.ret (LF.cal c_law_odd_879d hr hgd rfl (LA.cons (LO.s 0 (pv 0)) (LA.cons (LO.ofD (LD.var 1 (pv 1))) LA.nil))))))) hsp
abbrev st_law : Stmt := top 29
theorem sc_law : FnScope N_law ["script"] (defScope st_law) := ⟨rfl, rfl, rfl, by decide +kernel, rfl, by decide +kernel, by decide +kernel⟩
theorem fn_law {P : Program} {w : World} {K : PySem.W.Frag} {mg : Str → Option Value} {base : Heap} {k : Nat} (hnd : base.NoDigits) {fa : Addr} {fd : FuncData} (Fn : Fun K "law" "law" st_law fa fd) {S_law_deck_91e6 : FSpec} (c_law_deck_91e6 : Cal P w K mg base k "_law_deck" ["script"] S_law_deck_91e6) {S_law_formula_6b2b : FSpec} (c_law_formula_6b2b : Cal P w K mg base k "_law_formula" ["deck", "letters", "room", "deep"] S_law_formula_6b2b) {S_law_draw_a51a : FSpec} (c_law_draw_a51a : Cal P w K mg base k "_law_draw" ["deck", "many"] S_law_draw_a51a) {S_reach : FSpec} (c_reach : Cal P w K mg base k "reach" ["formula"] S_reach) {S_law_reach_3ce3 : FSpec} (c_law_reach_3ce3 : Cal P w K mg base k "_law_reach" ["formula"] S_law_reach_3ce3) {S_is_formula : FSpec} (c_is_formula : Cal P w K mg base k "is_formula" ["value"] S_is_formula) {S_is_lone : FSpec} (c_is_lone : Cal P w K mg base k "is_lone" ["formula"] S_is_lone) {S_law_one_90da : FSpec} (c_law_one_90da : Cal P w K mg base k "_law_one" ["deck", "items"] S_law_one_90da) {S_law_bent_017e : FSpec} (c_law_bent_017e : Cal P w K mg base k "_law_bent" ["deck", "value"] S_law_bent_017e) {S_law_due_f025 : FSpec} (c_law_due_f025 : Cal P w K mg base k "_law_due" ["value"] S_law_due_f025) (b_range : mg "range" = none) (b_repr : mg "repr" = none) {S : FSpec}
    (len : ∀ args Q, S.sp args Q → args.length = 1) (hsp : ∀ args Q, S.sp args Q → ir_law S_law_deck_91e6 S_law_formula_6b2b S_law_draw_a51a S_reach S_law_reach_3ce3 S_is_formula S_is_lone S_law_one_90da S_law_bent_017e S_law_due_f025 (endsOf args Q) (rho0 N_law args)) : FnG P w K mg base CX0 (k + 1) fa fd ["script"] (liftC K S) := by
  have sc := sc_law
  exact def_ok Fn sc len (fun cdv A outer s H E hr hgd =>
    (LSs.cons (LS.asg (i := 1) sc.nd rfl (by first | exact .inl rfl | exact .inr rfl) (LF.cal c_law_deck_91e6 hr hgd rfl (LA.cons (LO.s 0 (pv 0)) LA.nil)))
    (LSs.cons (LS.for (pt := (.nm 2)) PassesOwn.never rfl (LI.range1 rfl b_range (LA.cons (LO.ofD LD.int) LA.nil)) (pg_name (i := 2) sc.nd rfl (by first | exact .inl rfl | exact .inr rfl)) (LSs.cons (LS.asg (i := 3) sc.nd rfl (by first | exact .inl rfl | exact .inr rfl) (LF.cal c_law_formula_6b2b hr hgd rfl (LA.cons (LO.s 1 (pv 1)) (LA.cons (LO.ofD (LD.ofF (LF.lst (LA.cons (LO.ofD LD.str) (LA.cons (LO.ofD LD.str) LA.nil))))) (LA.cons (LO.ofD LD.int) (LA.cons (LO.ofD (LD.bin op_addD ok_add (LO.ofD LD.int) (LO.ofD (LD.ofF (LF.cal c_law_draw_a51a hr hgd rfl (LA.cons (LO.s 1 (pv 1)) (LA.cons (LO.ofD LD.int) LA.nil))))))) LA.nil))))))
    (LSs.cons (LS.ite (LT.w (LW.or (LT.cmp op_isnot_bl ok_notB (LO.ofD (LD.ofF (LF.cal c_is_formula hr hgd rfl (LA.cons (LO.ofD (LD.var 3 (pv 3))) LA.nil)))) (LO.ofD LD.bl) (nomark _)) (LW.or1 (LT.cmp (op_neU hr.units) ok_ne (LO.ofD (LD.bi (call_repr hr hgd hnd) ok_repr rfl b_repr (by decide +kernel) (LA.cons (LO.ofD (LD.ofF (LF.cal c_reach hr hgd rfl (LA.cons (LO.ofD (LD.var 3 (pv 3))) LA.nil)))) LA.nil))) (LO.ofD (LD.bi (call_repr hr hgd hnd) ok_repr rfl b_repr (by decide +kernel) (LA.cons (LO.ofD (LD.ofF (LF.cal c_law_reach_3ce3 hr hgd rfl (LA.cons (LO.ofD (LD.var 3 (pv 3))) LA.nil)))) LA.nil))) (nomark _))))) (LSs.one (LS.ret (LF.ofD LD.bl))) LSs.nil)
    (LSs.cons (LS.ite (LT.cmp (op_neU hr.units) ok_ne (LO.ofD (LD.bi (call_repr hr hgd hnd) ok_repr rfl b_repr (by decide +kernel) (LA.cons (LO.ofD (LD.ofF (LF.cal c_is_lone hr hgd rfl (LA.cons (LO.ofD (LD.var 3 (pv 3))) LA.nil)))) LA.nil))) (LO.ofD (LD.bi (call_repr hr hgd hnd) ok_repr rfl b_repr (by decide +kernel) (LA.cons (LO.ofD (LD.cmp op_notin_str ok_notInS (LO.ofD LD.str) (LO.ofD (LD.bi (call_repr hr hgd hnd) ok_repr rfl b_repr (by decide +kernel) (LA.cons (LO.s 3 (pv 3)) LA.nil))) rfl)) LA.nil))) (nomark _)) (LSs.one (LS.ret (LF.ofD LD.bl))) LSs.nil)
    (LSs.cons (LS.for (pt := (.nm 4)) PassesOwn.never rfl (LI.range1 rfl b_range (LA.cons (LO.ofD (LD.ofF (LF.cal c_law_one_90da hr hgd rfl (LA.cons (LO.s 1 (pv 1)) (LA.cons (LO.ofD (LD.ofF (LF.lst (LA.cons (LO.ofD LD.int) (LA.cons (LO.ofD LD.int) (LA.cons (LO.ofD LD.int) LA.nil)))))) LA.nil))))) LA.nil)) (pg_name (i := 4) sc.nd rfl (by first | exact .inl rfl | exact .inr rfl)) (LSs.one (LS.asg (i := 3) sc.nd rfl (by first | exact .inl rfl | exact .inr rfl) (LF.cal c_law_bent_017e hr hgd rfl (LA.cons (LO.s 1 (pv 1)) (LA.cons (LO.ofD (LD.var 3 (pv 3))) LA.nil))))))
    (LSs.cons (LS.asg (i := 5) sc.nd rfl (by first | exact .inl rfl | exact .inr rfl) (LF.ofD (LD.bi (call_repr hr hgd hnd) ok_repr rfl b_repr (by decide +kernel) (LA.cons (LO.s 3 (pv 3)) LA.nil))))
    (LSs.one (LS.ite (LT.w (LW.or (LT.cmp (op_neU hr.units) ok_ne (LO.ofD (LD.bi (call_repr hr hgd hnd) ok_repr rfl b_repr (by decide +kernel) (LA.cons (LO.ofD (LD.ofF (LF.cal c_is_formula hr hgd rfl (LA.cons (LO.ofD (LD.var 3 (pv 3))) LA.nil)))) LA.nil))) (LO.ofD (LD.bi (call_repr hr hgd hnd) ok_repr rfl b_repr (by decide +kernel) (LA.cons (LO.ofD (LD.ofF (LF.cal c_law_due_f025 hr hgd rfl (LA.cons (LO.ofD (LD.var 3 (pv 3))) LA.nil)))) LA.nil))) (nomark _)) (LW.or1 (LT.cmp (op_neU hr.units) ok_ne (LO.ofD (LD.bi (call_repr hr hgd hnd) ok_repr rfl b_repr (by decide +kernel) (LA.cons (LO.s 3 (pv 3)) LA.nil))) (LO.s 5 (pv 5)) (nomark _))))) (LSs.one (LS.ret (LF.ofD LD.bl))) LSs.nil))))))))
    (LSs.one (LS.ret (LF.ofD LD.bl)))))) hsp
theorem all_mk {l : PySem.W.OpenLaw} {w : World} {K : PySem.W.Frag} {h : Heap} {mg : Str → Option Value} {fa f0 f1 f2 f3 f4 f5 f6 f7 f8 f9 f10 f11 f12 f13 f14 f15 f16 f17 f18 f19 f20 : Addr} (X : K.In h) (G : h.Ns mainGlobals mg) (hfa : mg "law" = some (.ref fa))
    {od0 an0 od1 an1 od2 an2 od3 an3 od4 an4 od5 an5 od6 an6 od7 an7 od8 an8 od9 an9 od10 an10 od11 an11 od12 an12 od13 an13 od14 an14 od15 an15 od16 an16 od17 an17 od18 an18 od19 an19 od20 an20 : Option Addr} {sl0 sl1 sl2 sl3 sl4 sl5 sl6 sl7 sl8 sl9 sl10 sl11 sl12 sl13 sl14 sl15 sl16 sl17 sl18 sl19 sl20 : Array (Option Value)} {oc0 kV0 dc0 pm0 cd0 ct0 oc1 kV1 dc1 pm1 cd1 ct1 oc2 kV2 dc2 pm2 cd2 ct2 oc3 kV3 dc3 pm3 cd3 ct3 oc4 kV4 dc4 pm4 cd4 ct4 oc5 kV5 dc5 pm5 cd5 ct5 oc6 kV6 dc6 pm6 cd6 ct6 oc7 kV7 dc7 pm7 cd7 ct7 oc8 kV8 dc8 pm8 cd8 ct8 oc9 kV9 dc9 pm9 cd9 ct9 oc10 kV10 dc10 pm10 cd10 ct10 oc11 kV11 dc11 pm11 cd11 ct11 oc12 kV12 dc12 pm12 cd12 ct12 oc13 kV13 dc13 pm13 cd13 ct13 oc14 kV14 dc14 pm14 cd14 ct14 oc15 kV15 dc15 pm15 cd15 ct15 oc16 kV16 dc16 pm16 cd16 ct16 oc17 kV17 dc17 pm17 cd17 ct17 oc18 kV18 dc18 pm18 cd18 ct18 oc19 kV19 dc19 pm19 cd19 ct19 oc20 kV20 dc20 pm20 cd20 ct20 : Value}
    (a0 : PySem.W.nsIn K mainGlobals "is_integer" = some (some (.ref f0))) (l0 : K.lookup f0 = some ⟨oc0, od0, .func (PySem.W.fnOf "is_integer" "is_integer" (defArgs st_is_integer) (defBody st_is_integer) (defScope st_is_integer) .none kV0 dc0 pm0 an0 cd0 ct0), sl0⟩) (c0 : PySem.W.codeIn K cd0 "is_integer" = true) (k0 : PySem.W.keepIn K (.ref f0) = true)
    (a1 : PySem.W.nsIn K mainGlobals "is_leaf" = some (some (.ref f1))) (l1 : K.lookup f1 = some ⟨oc1, od1, .func (PySem.W.fnOf "is_leaf" "is_leaf" (defArgs st_is_leaf) (defBody st_is_leaf) (defScope st_is_leaf) .none kV1 dc1 pm1 an1 cd1 ct1), sl1⟩) (c1 : PySem.W.codeIn K cd1 "is_leaf" = true) (k1 : PySem.W.keepIn K (.ref f1) = true)
    (a2 : PySem.W.nsIn K mainGlobals "inner" = some (some (.ref f2))) (l2 : K.lookup f2 = some ⟨oc2, od2, .func (PySem.W.fnOf "inner" "inner" (defArgs st_inner) (defBody st_inner) (defScope st_inner) .none kV2 dc2 pm2 an2 cd2 ct2), sl2⟩) (c2 : PySem.W.codeIn K cd2 "inner" = true) (k2 : PySem.W.keepIn K (.ref f2) = true)
    (a3 : PySem.W.nsIn K mainGlobals "has_form" = some (some (.ref f3))) (l3 : K.lookup f3 = some ⟨oc3, od3, .func (PySem.W.fnOf "has_form" "has_form" (defArgs st_has_form) (defBody st_has_form) (defScope st_has_form) .none kV3 dc3 pm3 an3 cd3 ct3), sl3⟩) (c3 : PySem.W.codeIn K cd3 "has_form" = true) (k3 : PySem.W.keepIn K (.ref f3) = true)
    (a4 : PySem.W.nsIn K mainGlobals "reach" = some (some (.ref f4))) (l4 : K.lookup f4 = some ⟨oc4, od4, .func (PySem.W.fnOf "reach" "reach" (defArgs st_reach) (defBody st_reach) (defScope st_reach) .none kV4 dc4 pm4 an4 cd4 ct4), sl4⟩) (c4 : PySem.W.codeIn K cd4 "reach" = true) (k4 : PySem.W.keepIn K (.ref f4) = true)
    (a5 : PySem.W.nsIn K mainGlobals "greatest_reach" = some (some (.ref f5))) (l5 : K.lookup f5 = some ⟨oc5, od5, .func (PySem.W.fnOf "greatest_reach" "greatest_reach" (defArgs st_greatest_reach) (defBody st_greatest_reach) (defScope st_greatest_reach) .none kV5 dc5 pm5 an5 cd5 ct5), sl5⟩) (c5 : PySem.W.codeIn K cd5 "greatest_reach" = true) (k5 : PySem.W.keepIn K (.ref f5) = true)
    (a6 : PySem.W.nsIn K mainGlobals "is_formula" = some (some (.ref f6))) (l6 : K.lookup f6 = some ⟨oc6, od6, .func (PySem.W.fnOf "is_formula" "is_formula" (defArgs st_is_formula) (defBody st_is_formula) (defScope st_is_formula) .none kV6 dc6 pm6 an6 cd6 ct6), sl6⟩) (c6 : PySem.W.codeIn K cd6 "is_formula" = true) (k6 : PySem.W.keepIn K (.ref f6) = true)
    (a7 : PySem.W.nsIn K mainGlobals "is_lone" = some (some (.ref f7))) (l7 : K.lookup f7 = some ⟨oc7, od7, .func (PySem.W.fnOf "is_lone" "is_lone" (defArgs st_is_lone) (defBody st_is_lone) (defScope st_is_lone) .none kV7 dc7 pm7 an7 cd7 ct7), sl7⟩) (c7 : PySem.W.codeIn K cd7 "is_lone" = true) (k7 : PySem.W.keepIn K (.ref f7) = true)
    (a8 : PySem.W.nsIn K mainGlobals "_law_deck" = some (some (.ref f8))) (l8 : K.lookup f8 = some ⟨oc8, od8, .func (PySem.W.fnOf "_law_deck" "_law_deck" (defArgs st_law_deck_91e6) (defBody st_law_deck_91e6) (defScope st_law_deck_91e6) .none kV8 dc8 pm8 an8 cd8 ct8), sl8⟩) (c8 : PySem.W.codeIn K cd8 "_law_deck" = true) (k8 : PySem.W.keepIn K (.ref f8) = true)
    (a9 : PySem.W.nsIn K mainGlobals "_law_draw" = some (some (.ref f9))) (l9 : K.lookup f9 = some ⟨oc9, od9, .func (PySem.W.fnOf "_law_draw" "_law_draw" (defArgs st_law_draw_a51a) (defBody st_law_draw_a51a) (defScope st_law_draw_a51a) .none kV9 dc9 pm9 an9 cd9 ct9), sl9⟩) (c9 : PySem.W.codeIn K cd9 "_law_draw" = true) (k9 : PySem.W.keepIn K (.ref f9) = true)
    (a10 : PySem.W.nsIn K mainGlobals "_law_one" = some (some (.ref f10))) (l10 : K.lookup f10 = some ⟨oc10, od10, .func (PySem.W.fnOf "_law_one" "_law_one" (defArgs st_law_one_90da) (defBody st_law_one_90da) (defScope st_law_one_90da) .none kV10 dc10 pm10 an10 cd10 ct10), sl10⟩) (c10 : PySem.W.codeIn K cd10 "_law_one" = true) (k10 : PySem.W.keepIn K (.ref f10) = true)
    (a11 : PySem.W.nsIn K mainGlobals "_law_leaf" = some (some (.ref f11))) (l11 : K.lookup f11 = some ⟨oc11, od11, .func (PySem.W.fnOf "_law_leaf" "_law_leaf" (defArgs st_law_leaf_a91b) (defBody st_law_leaf_a91b) (defScope st_law_leaf_a91b) .none kV11 dc11 pm11 an11 cd11 ct11), sl11⟩) (c11 : PySem.W.codeIn K cd11 "_law_leaf" = true) (k11 : PySem.W.keepIn K (.ref f11) = true)
    (a12 : PySem.W.nsIn K mainGlobals "_law_formula" = some (some (.ref f12))) (l12 : K.lookup f12 = some ⟨oc12, od12, .func (PySem.W.fnOf "_law_formula" "_law_formula" (defArgs st_law_formula_6b2b) (defBody st_law_formula_6b2b) (defScope st_law_formula_6b2b) .none kV12 dc12 pm12 an12 cd12 ct12), sl12⟩) (c12 : PySem.W.codeIn K cd12 "_law_formula" = true) (k12 : PySem.W.keepIn K (.ref f12) = true)
    (a13 : PySem.W.nsIn K mainGlobals "_law_is_leaf" = some (some (.ref f13))) (l13 : K.lookup f13 = some ⟨oc13, od13, .func (PySem.W.fnOf "_law_is_leaf" "_law_is_leaf" (defArgs st_law_is_leaf_a50f) (defBody st_law_is_leaf_a50f) (defScope st_law_is_leaf_a50f) .none kV13 dc13 pm13 an13 cd13 ct13), sl13⟩) (c13 : PySem.W.codeIn K cd13 "_law_is_leaf" = true) (k13 : PySem.W.keepIn K (.ref f13) = true)
    (a14 : PySem.W.nsIn K mainGlobals "_law_parts" = some (some (.ref f14))) (l14 : K.lookup f14 = some ⟨oc14, od14, .func (PySem.W.fnOf "_law_parts" "_law_parts" (defArgs st_law_parts_a0f1) (defBody st_law_parts_a0f1) (defScope st_law_parts_a0f1) .none kV14 dc14 pm14 an14 cd14 ct14), sl14⟩) (c14 : PySem.W.codeIn K cd14 "_law_parts" = true) (k14 : PySem.W.keepIn K (.ref f14) = true)
    (a15 : PySem.W.nsIn K mainGlobals "_law_is_part" = some (some (.ref f15))) (l15 : K.lookup f15 = some ⟨oc15, od15, .func (PySem.W.fnOf "_law_is_part" "_law_is_part" (defArgs st_law_is_part_88ea) (defBody st_law_is_part_88ea) (defScope st_law_is_part_88ea) .none kV15 dc15 pm15 an15 cd15 ct15), sl15⟩) (c15 : PySem.W.codeIn K cd15 "_law_is_part" = true) (k15 : PySem.W.keepIn K (.ref f15) = true)
    (a16 : PySem.W.nsIn K mainGlobals "_law_reach" = some (some (.ref f16))) (l16 : K.lookup f16 = some ⟨oc16, od16, .func (PySem.W.fnOf "_law_reach" "_law_reach" (defArgs st_law_reach_3ce3) (defBody st_law_reach_3ce3) (defScope st_law_reach_3ce3) .none kV16 dc16 pm16 an16 cd16 ct16), sl16⟩) (c16 : PySem.W.codeIn K cd16 "_law_reach" = true) (k16 : PySem.W.keepIn K (.ref f16) = true)
    (a17 : PySem.W.nsIn K mainGlobals "_law_due" = some (some (.ref f17))) (l17 : K.lookup f17 = some ⟨oc17, od17, .func (PySem.W.fnOf "_law_due" "_law_due" (defArgs st_law_due_f025) (defBody st_law_due_f025) (defScope st_law_due_f025) .none kV17 dc17 pm17 an17 cd17 ct17), sl17⟩) (c17 : PySem.W.codeIn K cd17 "_law_due" = true) (k17 : PySem.W.keepIn K (.ref f17) = true)
    (a18 : PySem.W.nsIn K mainGlobals "_law_odd" = some (some (.ref f18))) (l18 : K.lookup f18 = some ⟨oc18, od18, .func (PySem.W.fnOf "_law_odd" "_law_odd" (defArgs st_law_odd_879d) (defBody st_law_odd_879d) (defScope st_law_odd_879d) .none kV18 dc18 pm18 an18 cd18 ct18), sl18⟩) (c18 : PySem.W.codeIn K cd18 "_law_odd" = true) (k18 : PySem.W.keepIn K (.ref f18) = true)
    (a19 : PySem.W.nsIn K mainGlobals "_law_bent" = some (some (.ref f19))) (l19 : K.lookup f19 = some ⟨oc19, od19, .func (PySem.W.fnOf "_law_bent" "_law_bent" (defArgs st_law_bent_017e) (defBody st_law_bent_017e) (defScope st_law_bent_017e) .none kV19 dc19 pm19 an19 cd19 ct19), sl19⟩) (c19 : PySem.W.codeIn K cd19 "_law_bent" = true) (k19 : PySem.W.keepIn K (.ref f19) = true)
    (a20 : PySem.W.nsIn K mainGlobals "law" = some (some (.ref f20))) (l20 : K.lookup f20 = some ⟨oc20, od20, .func (PySem.W.fnOf "law" "law" (defArgs st_law) (defBody st_law) (defScope st_law) .none kV20 dc20 pm20 an20 cd20 ct20), sl20⟩) (c20 : PySem.W.codeIn K cd20 "law" = true) (k20 : PySem.W.keepIn K (.ref f20) = true)
    (z_isinstance : PySem.W.nsIn K mainGlobals "isinstance" = some none)
    (z_bool : PySem.W.nsIn K mainGlobals "bool" = some none)
    (z_int : PySem.W.nsIn K mainGlobals "int" = some none)
    (z_abs : PySem.W.nsIn K mainGlobals "abs" = some none)
    (z_str : PySem.W.nsIn K mainGlobals "str" = some none)
    (z_len : PySem.W.nsIn K mainGlobals "len" = some none)
    (z_tuple : PySem.W.nsIn K mainGlobals "tuple" = some none)
    (z_range : PySem.W.nsIn K mainGlobals "range" = some none)
    (z_max : PySem.W.nsIn K mainGlobals "max" = some none)
    (z_all : PySem.W.nsIn K mainGlobals "all" = some none)
    (z_list : PySem.W.nsIn K mainGlobals "list" = some none)
    (z_repr : PySem.W.nsIn K mainGlobals "repr" = some none)
    {t_MOST_INTEGER : Tok} (m_MOST_INTEGER : PySem.W.nsIn K mainGlobals "MOST_INTEGER" = some (some (.int (10000000000000000000000000000000000000000) t_MOST_INTEGER)))
    {d_LETTERS : Addr} {od_LETTERS : Option Addr} {n_LETTERS : Nat} {sl_LETTERS : Array (Option Value)} {t0_LETTERS t1_LETTERS : Tok} (m_LETTERS : PySem.W.nsIn K mainGlobals "LETTERS" = some (some (.ref d_LETTERS))) (l_LETTERS : K.lookup d_LETTERS = some ⟨.type "tuple", od_LETTERS, .seq #[.str "x" t0_LETTERS, .str "y" t1_LETTERS] n_LETTERS, sl_LETTERS⟩)
    {d_PAIRS : Addr} {od_PAIRS : Option Addr} {n_PAIRS : Nat} {sl_PAIRS : Array (Option Value)} {t0_PAIRS t1_PAIRS t2_PAIRS : Tok} (m_PAIRS : PySem.W.nsIn K mainGlobals "PAIRS" = some (some (.ref d_PAIRS))) (l_PAIRS : K.lookup d_PAIRS = some ⟨.type "tuple", od_PAIRS, .seq #[.str "add" t0_PAIRS, .str "sub" t1_PAIRS, .str "mul" t2_PAIRS] n_PAIRS, sl_PAIRS⟩)
    {t_MOST_POWER : Tok} (m_MOST_POWER : PySem.W.nsIn K mainGlobals "MOST_POWER" = some (some (.int (16) t_MOST_POWER)))
    {t_MOST_LEVELS : Tok} (m_MOST_LEVELS : PySem.W.nsIn K mainGlobals "MOST_LEVELS" = some (some (.int (16) t_MOST_LEVELS)))
    {t_MOST_PARTS : Tok} (m_MOST_PARTS : PySem.W.nsIn K mainGlobals "MOST_PARTS" = some (some (.int (200) t_MOST_PARTS)))
    {t_MOST_REACH : Tok} (m_MOST_REACH : PySem.W.nsIn K mainGlobals "MOST_REACH" = some (some (.int (16) t_MOST_REACH)))
    : ∃ fd : FuncData, (∀ (s : Shared) (v : Value), BindsTo s fd ⟨[v], []⟩ [("script", v)]) ∧ ∀ base : Heap, K.In base → base.Ns mainGlobals mg → base.NoDigits → FnG l.prog w K mg base CX0 103 fa fd ["script"] (liftC K lawS) := by
  have e := hfa.symm.trans (PySem.W.mg_of X G a20)
  cases e
  have F_is_integer := fun_mk (st := st_is_integer) l0 c0 k0
  have D_is_integer : Dn K mg "is_integer" st_is_integer ["value"] := ⟨⟨_, _, F_is_integer, PySem.W.mg_of X G a0, F_is_integer.binds (ps := ["value"]) fun _ _ _ _ _ _ us hl => match us, hl with | [_], _ => rfl⟩⟩
  have F_is_leaf := fun_mk (st := st_is_leaf) l1 c1 k1
  have D_is_leaf : Dn K mg "is_leaf" st_is_leaf ["value"] := ⟨⟨_, _, F_is_leaf, PySem.W.mg_of X G a1, F_is_leaf.binds (ps := ["value"]) fun _ _ _ _ _ _ us hl => match us, hl with | [_], _ => rfl⟩⟩
  have F_inner := fun_mk (st := st_inner) l2 c2 k2
  have D_inner : Dn K mg "inner" st_inner ["value"] := ⟨⟨_, _, F_inner, PySem.W.mg_of X G a2, F_inner.binds (ps := ["value"]) fun _ _ _ _ _ _ us hl => match us, hl with | [_], _ => rfl⟩⟩
  have F_has_form := fun_mk (st := st_has_form) l3 c3 k3
  have D_has_form : Dn K mg "has_form" st_has_form ["value"] := ⟨⟨_, _, F_has_form, PySem.W.mg_of X G a3, F_has_form.binds (ps := ["value"]) fun _ _ _ _ _ _ us hl => match us, hl with | [_], _ => rfl⟩⟩
  have F_reach := fun_mk (st := st_reach) l4 c4 k4
  have D_reach : Dn K mg "reach" st_reach ["formula"] := ⟨⟨_, _, F_reach, PySem.W.mg_of X G a4, F_reach.binds (ps := ["formula"]) fun _ _ _ _ _ _ us hl => match us, hl with | [_], _ => rfl⟩⟩
  have F_greatest_reach := fun_mk (st := st_greatest_reach) l5 c5 k5
  have D_greatest_reach : Dn K mg "greatest_reach" st_greatest_reach ["formula"] := ⟨⟨_, _, F_greatest_reach, PySem.W.mg_of X G a5, F_greatest_reach.binds (ps := ["formula"]) fun _ _ _ _ _ _ us hl => match us, hl with | [_], _ => rfl⟩⟩
  have F_is_formula := fun_mk (st := st_is_formula) l6 c6 k6
  have D_is_formula : Dn K mg "is_formula" st_is_formula ["value"] := ⟨⟨_, _, F_is_formula, PySem.W.mg_of X G a6, F_is_formula.binds (ps := ["value"]) fun _ _ _ _ _ _ us hl => match us, hl with | [_], _ => rfl⟩⟩
  have F_is_lone := fun_mk (st := st_is_lone) l7 c7 k7
  have D_is_lone : Dn K mg "is_lone" st_is_lone ["formula"] := ⟨⟨_, _, F_is_lone, PySem.W.mg_of X G a7, F_is_lone.binds (ps := ["formula"]) fun _ _ _ _ _ _ us hl => match us, hl with | [_], _ => rfl⟩⟩
  have F_law_deck_91e6 := fun_mk (st := st_law_deck_91e6) l8 c8 k8
  have D_law_deck_91e6 : Dn K mg "_law_deck" st_law_deck_91e6 ["script"] := ⟨⟨_, _, F_law_deck_91e6, PySem.W.mg_of X G a8, F_law_deck_91e6.binds (ps := ["script"]) fun _ _ _ _ _ _ us hl => match us, hl with | [_], _ => rfl⟩⟩
  have F_law_draw_a51a := fun_mk (st := st_law_draw_a51a) l9 c9 k9
  have D_law_draw_a51a : Dn K mg "_law_draw" st_law_draw_a51a ["deck", "many"] := ⟨⟨_, _, F_law_draw_a51a, PySem.W.mg_of X G a9, F_law_draw_a51a.binds (ps := ["deck", "many"]) fun _ _ _ _ _ _ us hl => match us, hl with | [_, _], _ => rfl⟩⟩
  have F_law_one_90da := fun_mk (st := st_law_one_90da) l10 c10 k10
  have D_law_one_90da : Dn K mg "_law_one" st_law_one_90da ["deck", "items"] := ⟨⟨_, _, F_law_one_90da, PySem.W.mg_of X G a10, F_law_one_90da.binds (ps := ["deck", "items"]) fun _ _ _ _ _ _ us hl => match us, hl with | [_, _], _ => rfl⟩⟩
  have F_law_leaf_a91b := fun_mk (st := st_law_leaf_a91b) l11 c11 k11
  have D_law_leaf_a91b : Dn K mg "_law_leaf" st_law_leaf_a91b ["deck", "letters"] := ⟨⟨_, _, F_law_leaf_a91b, PySem.W.mg_of X G a11, F_law_leaf_a91b.binds (ps := ["deck", "letters"]) fun _ _ _ _ _ _ us hl => match us, hl with | [_, _], _ => rfl⟩⟩
  have F_law_formula_6b2b := fun_mk (st := st_law_formula_6b2b) l12 c12 k12
  have D_law_formula_6b2b : Dn K mg "_law_formula" st_law_formula_6b2b ["deck", "letters", "room", "deep"] := ⟨⟨_, _, F_law_formula_6b2b, PySem.W.mg_of X G a12, F_law_formula_6b2b.binds (ps := ["deck", "letters", "room", "deep"]) fun _ _ _ _ _ _ us hl => match us, hl with | [_, _, _, _], _ => rfl⟩⟩
  have F_law_is_leaf_a50f := fun_mk (st := st_law_is_leaf_a50f) l13 c13 k13
  have D_law_is_leaf_a50f : Dn K mg "_law_is_leaf" st_law_is_leaf_a50f ["value"] := ⟨⟨_, _, F_law_is_leaf_a50f, PySem.W.mg_of X G a13, F_law_is_leaf_a50f.binds (ps := ["value"]) fun _ _ _ _ _ _ us hl => match us, hl with | [_], _ => rfl⟩⟩
  have F_law_parts_a0f1 := fun_mk (st := st_law_parts_a0f1) l14 c14 k14
  have D_law_parts_a0f1 : Dn K mg "_law_parts" st_law_parts_a0f1 ["value"] := ⟨⟨_, _, F_law_parts_a0f1, PySem.W.mg_of X G a14, F_law_parts_a0f1.binds (ps := ["value"]) fun _ _ _ _ _ _ us hl => match us, hl with | [_], _ => rfl⟩⟩
  have F_law_is_part_88ea := fun_mk (st := st_law_is_part_88ea) l15 c15 k15
  have D_law_is_part_88ea : Dn K mg "_law_is_part" st_law_is_part_88ea ["one"] := ⟨⟨_, _, F_law_is_part_88ea, PySem.W.mg_of X G a15, F_law_is_part_88ea.binds (ps := ["one"]) fun _ _ _ _ _ _ us hl => match us, hl with | [_], _ => rfl⟩⟩
  have F_law_reach_3ce3 := fun_mk (st := st_law_reach_3ce3) l16 c16 k16
  have D_law_reach_3ce3 : Dn K mg "_law_reach" st_law_reach_3ce3 ["formula"] := ⟨⟨_, _, F_law_reach_3ce3, PySem.W.mg_of X G a16, F_law_reach_3ce3.binds (ps := ["formula"]) fun _ _ _ _ _ _ us hl => match us, hl with | [_], _ => rfl⟩⟩
  have F_law_due_f025 := fun_mk (st := st_law_due_f025) l17 c17 k17
  have D_law_due_f025 : Dn K mg "_law_due" st_law_due_f025 ["value"] := ⟨⟨_, _, F_law_due_f025, PySem.W.mg_of X G a17, F_law_due_f025.binds (ps := ["value"]) fun _ _ _ _ _ _ us hl => match us, hl with | [_], _ => rfl⟩⟩
  have F_law_odd_879d := fun_mk (st := st_law_odd_879d) l18 c18 k18
  have D_law_odd_879d : Dn K mg "_law_odd" st_law_odd_879d ["deck", "one"] := ⟨⟨_, _, F_law_odd_879d, PySem.W.mg_of X G a18, F_law_odd_879d.binds (ps := ["deck", "one"]) fun _ _ _ _ _ _ us hl => match us, hl with | [_, _], _ => rfl⟩⟩
  have F_law_bent_017e := fun_mk (st := st_law_bent_017e) l19 c19 k19
  have D_law_bent_017e : Dn K mg "_law_bent" st_law_bent_017e ["deck", "value"] := ⟨⟨_, _, F_law_bent_017e, PySem.W.mg_of X G a19, F_law_bent_017e.binds (ps := ["deck", "value"]) fun _ _ _ _ _ _ us hl => match us, hl with | [_, _], _ => rfl⟩⟩
  have F_law := fun_mk (st := st_law) l20 c20 k20
  have b_isinstance := PySem.W.mg_none_of X G z_isinstance
  have b_bool := PySem.W.mg_none_of X G z_bool
  have b_int := PySem.W.mg_none_of X G z_int
  have b_abs := PySem.W.mg_none_of X G z_abs
  have b_str := PySem.W.mg_none_of X G z_str
  have b_len := PySem.W.mg_none_of X G z_len
  have b_tuple := PySem.W.mg_none_of X G z_tuple
  have b_range := PySem.W.mg_none_of X G z_range
  have b_max := PySem.W.mg_none_of X G z_max
  have b_all := PySem.W.mg_none_of X G z_all
  have b_list := PySem.W.mg_none_of X G z_list
  have b_repr := PySem.W.mg_none_of X G z_repr
  have g_MOST_INTEGER := (⟨⟨.int (10000000000000000000000000000000000000000), .int (10000000000000000000000000000000000000000) t_MOST_INTEGER, PySem.W.mg_of X G m_MOST_INTEGER, ⟨_, rfl⟩, fun F => .int _⟩⟩ : Glb K mg "MOST_INTEGER" (.int 10000000000000000000000000000000000000000))
  have g_LETTERS := (⟨⟨.ref d_LETTERS, .ref d_LETTERS, PySem.W.mg_of X G m_LETTERS, rfl, fun F => .tup (xs := [V.str "x", V.str "y"]) (.inr ⟨_, _, _, l_LETTERS, rfl, rfl, by show 2 ≤ sizeLine; rw [sizeLine_eq]; decide, (.cons ⟨_, rfl⟩ (.cons ⟨_, rfl⟩ .nil))⟩) (.cons (.str _) (.cons (.str _) .nil))⟩⟩ : Glb K mg "LETTERS" (.tuple [.str "x", .str "y"]))
  have g_PAIRS := (⟨⟨.ref d_PAIRS, .ref d_PAIRS, PySem.W.mg_of X G m_PAIRS, rfl, fun F => .tup (xs := [V.str "add", V.str "sub", V.str "mul"]) (.inr ⟨_, _, _, l_PAIRS, rfl, rfl, by show 3 ≤ sizeLine; rw [sizeLine_eq]; decide, (.cons ⟨_, rfl⟩ (.cons ⟨_, rfl⟩ (.cons ⟨_, rfl⟩ .nil)))⟩) (.cons (.str _) (.cons (.str _) (.cons (.str _) .nil)))⟩⟩ : Glb K mg "PAIRS" (.tuple [.str "add", .str "sub", .str "mul"]))
  have g_MOST_POWER := (⟨⟨.int (16), .int (16) t_MOST_POWER, PySem.W.mg_of X G m_MOST_POWER, ⟨_, rfl⟩, fun F => .int _⟩⟩ : Glb K mg "MOST_POWER" (.int 16))
  have g_MOST_LEVELS := (⟨⟨.int (16), .int (16) t_MOST_LEVELS, PySem.W.mg_of X G m_MOST_LEVELS, ⟨_, rfl⟩, fun F => .int _⟩⟩ : Glb K mg "MOST_LEVELS" (.int 16))
  have g_MOST_PARTS := (⟨⟨.int (200), .int (200) t_MOST_PARTS, PySem.W.mg_of X G m_MOST_PARTS, ⟨_, rfl⟩, fun F => .int _⟩⟩ : Glb K mg "MOST_PARTS" (.int 200))
  have g_MOST_REACH := (⟨⟨.int (16), .int (16) t_MOST_REACH, PySem.W.mg_of X G m_MOST_REACH, ⟨_, rfl⟩, fun F => .int _⟩⟩ : Glb K mg "MOST_REACH" (.int 16))
  refine ⟨PySem.W.fnOf "law" "law" (defArgs st_law) (defBody st_law) (defScope st_law) .none kV20 dc20 pm20 an20 cd20 ct20, fun s v => .of_eq rfl, fun base _ _ hnd => ?_⟩
  have c_is_integer : Cal l.prog w K mg base 1 "is_integer" ["value"] S_isintP := cal_is_integer (k := 0) hnd D_is_integer b_isinstance b_bool b_int (by rintro args Q ⟨_, rfl, _⟩; rfl) (sp_isintP)
  have c_is_leaf : Cal l.prog w K mg base 2 "is_leaf" ["value"] S_isleafP := cal_is_leaf (k := 1) hnd D_is_leaf (c_is_integer.mono (by decide)) b_abs b_isinstance b_str g_MOST_INTEGER g_LETTERS (by rintro args Q ⟨_, rfl, _⟩; rfl) (sp_isleafP)
  have c_inner : Cal l.prog w K mg base 3 "inner" ["value"] S_innerV := cal_inner (k := 2) hnd D_inner (c_is_leaf.mono (by decide)) (c_is_integer.mono (by decide)) b_isinstance b_str b_len b_tuple g_PAIRS g_MOST_POWER (by rintro args Q ⟨_, rfl, _⟩; rfl) (sp_innerV)
  have c_has_form : Cal l.prog w K mg base 4 "has_form" ["value"] S_hasformV := cal_has_form (k := 3) hnd D_has_form (c_inner.mono (by decide)) b_range g_MOST_LEVELS g_MOST_PARTS (by rintro args Q ⟨_, rfl, _⟩; rfl) (sp_hasformV)
  have c_reach : ∀ d, Cal l.prog w K mg base (d + 1) "reach" ["formula"] (S_reachW d) := fun d => by
    induction d with
    | zero => exact Cal.vac D_reach S_reachW0
    | succ d ih => exact cal_reach (k := d + 1) hnd D_reach ih b_isinstance b_tuple b_max (by rintro args Q ⟨_, rfl, _⟩; rfl) (sp_reachW d)
  have c_greatest_reach : ∀ d, Cal l.prog w K mg base (d + 51) "greatest_reach" ["formula"] (S_greatW d) := fun d => by
    induction d with
    | zero => exact Cal.vac D_greatest_reach S_greatW0
    | succ d ih => exact cal_greatest_reach (k := d + 51) hnd D_greatest_reach ((c_reach 50).mono (by omega)) (c_inner.mono (by omega)) ih b_max (by rintro args Q ⟨_, rfl, _⟩; rfl) (sp_greatW d)
  have c_is_formula : Cal l.prog w K mg base 102 "is_formula" ["value"] S_isformV := cal_is_formula (k := 101) hnd D_is_formula ((c_greatest_reach 50).mono (by decide)) (c_has_form.mono (by decide)) g_MOST_REACH (by rintro args Q ⟨_, rfl, _⟩; rfl) (sp_isformV)
  have c_is_lone : ∀ d, Cal l.prog w K mg base (d + 3) "is_lone" ["formula"] (S_lone d) := fun d => by
    induction d with
    | zero => exact Cal.vac D_is_lone S_lone0
    | succ d ih => exact cal_is_lone (k := d + 3) hnd D_is_lone (c_inner.mono (by omega)) ih b_all (by rintro args Q ⟨_, rfl, _⟩; rfl) (sp_loneV d)
  have c_law_deck_91e6 : Cal l.prog w K mg base 1 "_law_deck" ["script"] S_deck := cal_law_deck_91e6 (k := 0) hnd D_law_deck_91e6 b_list (by rintro args Q ⟨_, rfl, _⟩; rfl) (sp_deck)
  have c_law_draw_a51a : Cal l.prog w K mg base 1 "_law_draw" ["deck", "many"] S_draw := cal_law_draw_a51a (k := 0) hnd D_law_draw_a51a b_int b_len b_abs (by rintro args Q ⟨_, _, _, rfl, _⟩; rfl) (sp_draw)
  have c_law_one_90da : Cal l.prog w K mg base 2 "_law_one" ["deck", "items"] S_one := cal_law_one_90da (k := 1) hnd D_law_one_90da (c_law_draw_a51a.mono (by decide)) b_len (by rintro args Q ⟨_, _, _, rfl, _⟩; rfl) (sp_one)
  have c_law_leaf_a91b : Cal l.prog w K mg base 3 "_law_leaf" ["deck", "letters"] S_leafB := cal_law_leaf_a91b (k := 2) hnd D_law_leaf_a91b (c_law_draw_a51a.mono (by decide)) (c_law_one_90da.mono (by decide)) (by rintro args Q ⟨_, _, _, _, rfl, _⟩; rfl) (sp_leafB)
  have c_law_formula_6b2b : ∀ d, Cal l.prog w K mg base (d + 3) "_law_formula" ["deck", "letters", "room", "deep"] (S_formulaB d) := fun d => by
    induction d with
    | zero => exact Cal.vac D_law_formula_6b2b S_formulaB0
    | succ d ih => exact cal_law_formula_6b2b (k := d + 3) hnd D_law_formula_6b2b (c_law_draw_a51a.mono (by omega)) (c_law_leaf_a91b.mono (by omega)) ih b_max (by rintro args Q ⟨_, _, _, _, _, _, rfl, _⟩; rfl) (sp_formulaB d)
  have c_law_is_leaf_a50f : Cal l.prog w K mg base 1 "_law_is_leaf" ["value"] S_isleafP := cal_law_is_leaf_a50f (k := 0) hnd D_law_is_leaf_a50f b_isinstance b_str b_abs b_bool b_int (by rintro args Q ⟨_, rfl, _⟩; rfl) (sp_lisleaf)
  have c_law_parts_a0f1 : Cal l.prog w K mg base 1 "_law_parts" ["value"] S_lparts := cal_law_parts_a0f1 (k := 0) hnd D_law_parts_a0f1 b_isinstance b_str b_len b_tuple (by rintro args Q ⟨_, rfl, _⟩; rfl) (sp_lparts)
  have c_law_is_part_88ea : Cal l.prog w K mg base 2 "_law_is_part" ["one"] S_lispart := cal_law_is_part_88ea (k := 1) hnd D_law_is_part_88ea (c_law_is_leaf_a50f.mono (by decide)) b_isinstance b_str b_len b_tuple b_bool b_int (by rintro args Q ⟨_, rfl, _⟩; rfl) (sp_lispart)
  have c_law_reach_3ce3 : ∀ d, Cal l.prog w K mg base (d + 1) "_law_reach" ["formula"] (S_reachW d) := fun d => by
    induction d with
    | zero => exact Cal.vac D_law_reach_3ce3 S_reachW0
    | succ d ih => exact cal_law_reach_3ce3 (k := d + 1) hnd D_law_reach_3ce3 ih b_isinstance b_tuple b_max (by rintro args Q ⟨_, rfl, _⟩; rfl) (sp_lreach d)
  have c_law_due_f025 : Cal l.prog w K mg base 52 "_law_due" ["value"] S_due := cal_law_due_f025 (k := 51) hnd D_law_due_f025 (c_law_parts_a0f1.mono (by decide)) (c_law_is_part_88ea.mono (by decide)) ((c_law_reach_3ce3 50).mono (by decide)) b_len (by rintro args Q ⟨_, rfl, _⟩; rfl) (sp_due)
  have c_law_odd_879d : Cal l.prog w K mg base 3 "_law_odd" ["deck", "one"] S_odd := cal_law_odd_879d (k := 2) hnd D_law_odd_879d (c_law_one_90da.mono (by decide)) (by rintro args Q ⟨_, _, _, _, _, rfl, _⟩; rfl) (sp_odd)
  have c_law_bent_017e : ∀ d, Cal l.prog w K mg base (d + 3) "_law_bent" ["deck", "value"] (S_bent d) := fun d => by
    induction d with
    | zero => exact Cal.vac D_law_bent_017e S_bent0
    | succ d ih => exact cal_law_bent_017e (k := d + 3) hnd D_law_bent_017e (c_law_draw_a51a.mono (by omega)) ih (c_law_odd_879d.mono (by omega)) b_len b_isinstance b_tuple (by rintro args Q ⟨_, _, _, _, _, rfl, _⟩; rfl) (sp_bent d)
  exact fn_law (k := 102) hnd F_law (c_law_deck_91e6.mono (by decide)) ((c_law_formula_6b2b 5).mono (by decide)) (c_law_draw_a51a.mono (by decide)) ((c_reach 50).mono (by decide)) ((c_law_reach_3ce3 50).mono (by decide)) (c_is_formula.mono (by decide)) ((c_is_lone 16).mono (by decide)) (c_law_one_90da.mono (by decide)) ((c_law_bent_017e 15).mono (by decide)) (c_law_due_f025.mono (by decide)) b_range b_repr (by rintro args Q ⟨_, rfl, _⟩; rfl) sp_law
end DL
open PySem PySem.W PyProof.Rows
set_option maxRecDepth 100000 in
set_option maxHeartbeats 0 in
theorem PySem.Challenge.cw_hourforms_k02_what_is_a_formula_holds : PySem.Challenge.rw_hourforms_k02_what_is_a_formula.Holds := by
  w_on; o_law; k_head; (case hw => w_witness2)
  k_fill
  refine DL.walkG (l := PySem.Challenge.rw_hourforms_k02_what_is_a_formula) (x := "script") (k := 103) rfl rfl ⟨rfl, by decide, by decide⟩ (fun w h Y => PySem.W.kIn_of Y) ?F
  case F =>
    intro w mg fa h KX G hmg
    refine' DL.all_mk KX G hmg ?a0 ?l0 ?c0 ?k0 ?a1 ?l1 ?c1 ?k1 ?a2 ?l2 ?c2 ?k2 ?a3 ?l3 ?c3 ?k3 ?a4 ?l4 ?c4 ?k4 ?a5 ?l5 ?c5 ?k5 ?a6 ?l6 ?c6 ?k6 ?a7 ?l7 ?c7 ?k7 ?a8 ?l8 ?c8 ?k8 ?a9 ?l9 ?c9 ?k9 ?a10 ?l10 ?c10 ?k10 ?a11 ?l11 ?c11 ?k11 ?a12 ?l12 ?c12 ?k12 ?a13 ?l13 ?c13 ?k13 ?a14 ?l14 ?c14 ?k14 ?a15 ?l15 ?c15 ?k15 ?a16 ?l16 ?c16 ?k16 ?a17 ?l17 ?c17 ?k17 ?a18 ?l18 ?c18 ?k18 ?a19 ?l19 ?c19 ?k19 ?a20 ?l20 ?c20 ?k20 ?z_isinstance ?z_bool ?z_int ?z_abs ?z_str ?z_len ?z_tuple ?z_range ?z_max ?z_all ?z_list ?z_repr ?m_MOST_INTEGER ?m_LETTERS ?l_LETTERS ?m_PAIRS ?l_PAIRS ?m_MOST_POWER ?m_MOST_LEVELS ?m_MOST_PARTS ?m_MOST_REACH
    (case a0 => k_is); (case l0 => k_is); (case c0 => k_is); (case k0 => k_is)
    (case a1 => k_is); (case l1 => k_is); (case c1 => k_is); (case k1 => k_is)
    (case a2 => k_is); (case l2 => k_is); (case c2 => k_is); (case k2 => k_is)
    (case a3 => k_is); (case l3 => k_is); (case c3 => k_is); (case k3 => k_is)
    (case a4 => k_is); (case l4 => k_is); (case c4 => k_is); (case k4 => k_is)
    (case a5 => k_is); (case l5 => k_is); (case c5 => k_is); (case k5 => k_is)
    (case a6 => k_is); (case l6 => k_is); (case c6 => k_is); (case k6 => k_is)
    (case a7 => k_is); (case l7 => k_is); (case c7 => k_is); (case k7 => k_is)
    (case a8 => k_is); (case l8 => k_is); (case c8 => k_is); (case k8 => k_is)
    (case a9 => k_is); (case l9 => k_is); (case c9 => k_is); (case k9 => k_is)
    (case a10 => k_is); (case l10 => k_is); (case c10 => k_is); (case k10 => k_is)
    (case a11 => k_is); (case l11 => k_is); (case c11 => k_is); (case k11 => k_is)
    (case a12 => k_is); (case l12 => k_is); (case c12 => k_is); (case k12 => k_is)
    (case a13 => k_is); (case l13 => k_is); (case c13 => k_is); (case k13 => k_is)
    (case a14 => k_is); (case l14 => k_is); (case c14 => k_is); (case k14 => k_is)
    (case a15 => k_is); (case l15 => k_is); (case c15 => k_is); (case k15 => k_is)
    (case a16 => k_is); (case l16 => k_is); (case c16 => k_is); (case k16 => k_is)
    (case a17 => k_is); (case l17 => k_is); (case c17 => k_is); (case k17 => k_is)
    (case a18 => k_is); (case l18 => k_is); (case c18 => k_is); (case k18 => k_is)
    (case a19 => k_is); (case l19 => k_is); (case c19 => k_is); (case k19 => k_is)
    (case a20 => k_is); (case l20 => k_is); (case c20 => k_is); (case k20 => k_is)
    (case z_isinstance => k_is)
    (case z_bool => k_is)
    (case z_int => k_is)
    (case z_abs => k_is)
    (case z_str => k_is)
    (case z_len => k_is)
    (case z_tuple => k_is)
    (case z_range => k_is)
    (case z_max => k_is)
    (case z_all => k_is)
    (case z_list => k_is)
    (case z_repr => k_is)
    (case m_MOST_INTEGER => k_is)
    (case m_LETTERS => k_is)
    (case l_LETTERS => k_is)
    (case m_PAIRS => k_is)
    (case l_PAIRS => k_is)
    (case m_MOST_POWER => k_is)
    (case m_MOST_LEVELS => k_is)
    (case m_MOST_PARTS => k_is)
    (case m_MOST_REACH => k_is)
